import PyProof.Rows.All
import Wide.All
import OpenK.AllK
import Wide.FinOn
import HandS.ForMost
import HandS.ForExc
import HandS.Codes
import HandS.IsInst
import HandS.Gcd
import HandS.Wide
import HandS.WideBits
import HandS.Comp
import HandS.Iter
import HandS.Walk
import HandS.Zip
import HandS.Defaults
import HandS.Head0
import HandS.Head1
import HandS.Head2
import HandS.HeadEnd
import HandS.HeadHook1
import HandS.HeadHook2
import HandS.ExcField
import HandS.ExcInit
import KE.KSuper
import KE.KExcSuper
import HandS.Head3
import HandS.HeadHook3
import HandS.HeadHook4
import HandS.TupAny
import HandS.Deep
import HandS.OwnEq
import HandS.Star
import PyProof.NoPylong
import KE.GoesEnum
import KE.KDictZip
import KE.KItemsList
import HandS.ListItems
import HandS.ExcOwn
import HandS.TryOnly
import HandS.ExcIs
import HandS.Nested
import HandS.EndBits
import PySem.Challenge.RW_indicial_k31_whole_closures_with_first_o
set_option Elab.async false
set_option linter.all false
set_option maxRecDepth 100000
set_option maxHeartbeats 1000000
namespace K31
open PySem PySem.Spec L2
/-- the heap without what stands at a -/
def rmv (H : Hp) (a : Addr) : Hp := fun b => if b = a then none else H b
theorem rmv_upd {H : Hp} {a : Addr} {o : HO} (h : H a = none) : rmv (upd H a o) a = H := by
  funext b
  unfold rmv
  by_cases e : b = a
  · subst e; rw [if_pos rfl, h]
  · rw [if_neg e, upd_ne e]
section
variable {X : Cx} {pins : List (Addr × Obj)} {σ : L2.St} {H H1 : Hp} {s : Shared} {a : Addr} {xs : List V}
/-- THE FRAME: a list is put out of sight (pinned), and comes back as it was -/
theorem frame1 (I : Inv X pins σ (upd H1 a (.lst xs)) s) (hn : H1 a = none) :
    ∃ o, Inv X (pins ++ [(a, o)]) σ H1 s ∧ ∀ (σ' : L2.St) (H' : Hp) (s' : Shared), Inv X (pins ++ [(a, o)]) σ' H' s' → H' a = none ∧ Inv X pins σ' (upd H' a (.lst xs)) s' := by
  have ha : upd H1 a (.lst xs) a = some (.lst xs) := upd_same
  obtain ⟨hz, its, n, hv, ho⟩ := I.hok a _ ha
  have hne : ∀ b o, H1 b = some o → b ≠ a := fun b o e q => by rw [q, hn] at e; cases e
  have hloc : a ≠ X.env.locals := fun q => by
    have := I.free
    rw [← q, ha] at this; cases this
  have hfs : a ∉ X.fs := fun q => by
    have h1 : ∀ b ∈ X.fs, upd H1 a (.lst xs) b = none := fun b hb => by
      obtain ⟨_, o, ho, _⟩ := I.ok.funs.mem hb
      exact I.base.free b o ho (I.ok.frf b hb) fun z => I.ok.exfs b z hb
    have := h1 a q
    rw [ha] at this; cases this
  have e1 : ∀ b, b ≠ a → upd H1 a (.lst xs) b = H1 b := fun b hb => upd_ne hb
  refine ⟨{ cls := .type "list", data := .seq its.toArray n }, ⟨I.ok, I.os, I.bare, ?_, I.loc, I.cell, ?_, ?_, ?_, ?_, I.len⟩, fun σ' H' s' I' => ?_⟩
  · refine ⟨fun b o q hb hf hx => ?_, fun b o q hb hf hx => ?_, fun b o q hb hx => ?_, I.base.there, fun b ys q => ?_, fun b o u q => ?_, fun b ps q => ?_⟩
    · exact I.base.keep b o q hb hf hx
    · exact I.base.slot b o q hb hf hx
    · have := I.base.free b o q hb hx
      by_cases hba : b = a
      · rw [hba]; exact hn
      · rw [e1 b hba] at this; exact this
    · have := I.base.tups b ys q
      by_cases hba : b = a
      · rw [hba, ha] at this; cases this
      · rw [e1 b hba] at this; exact this
    · have := I.base.frzs b o u q
      by_cases hba : b = a
      · rw [hba, ha] at this; cases this
      · rw [e1 b hba] at this; exact this
    · obtain ⟨more, this⟩ := I.base.tbls b ps q
      by_cases hba : b = a
      · rw [hba, ha] at this; cases this
      · rw [e1 b hba] at this; exact ⟨more, this⟩
  · have := I.free
    rw [e1 _ hloc.symm] at this; exact this
  · intro x c hc
    have := I.freeC x c hc
    by_cases hba : c = a
    · rw [hba]; exact hn
    · rw [e1 c hba] at this; exact this
  · intro p hp
    rw [← List.append_assoc] at hp
    rcases List.mem_append.mp hp with hp | hp
    · obtain ⟨q1, q2, q3, q4, q5⟩ := I.pin p hp
      refine ⟨q1, ?_, q3, q4, q5⟩
      by_cases hba : p.1 = a
      · rw [hba]; exact hn
      · rw [e1 _ hba] at q2; exact q2
    · have : p = (a, { cls := .type "list", data := .seq its.toArray n }) := by simpa using hp
      subst this
      exact ⟨ho, hn, hloc, hfs, fun v q => by cases q⟩
  · intro b u e
    refine (I.hok b u (by rw [e1 b (hne b u e)]; exact e)).stay (fun c v _ q => q) (fun c q => ?_) (fun c ys q => ?_)
    · by_cases hba : c = a
      · rw [hba, ha] at q; cases q
      · rw [e1 c hba] at q; exact q
    · by_cases hba : c = a
      · rw [hba, ha] at q; cases q
      · rw [e1 c hba] at q; exact q
  · have hp := I'.pin (a, { cls := .type "list", data := .seq its.toArray n }) (by simp)
    obtain ⟨p1, p2, p3, p4, p5⟩ := hp
    have p1 : s'.heap.get? a = some { cls := .type "list", data := .seq its.toArray n } := p1
    have p2 : H' a = none := p2
    refine ⟨p2, ⟨I'.ok, I'.os, I'.bare, ?_, I'.loc, I'.cell, ?_, ?_, ?_, ?_, I'.len⟩⟩
    · refine ⟨fun b o q hb hf hx => I'.base.keep b o q hb hf hx, fun b o q hb hf hx => I'.base.slot b o q hb hf hx, fun b o q hb hx => ?_, I'.base.there, fun b ys q => ?_, fun b o u q => ?_, fun b ps q => ?_⟩
      · have h1 := I.base.free b o q hb hx
        have hba : b ≠ a := fun z => by rw [z, ha] at h1; cases h1
        rw [upd_ne hba]
        exact I'.base.free b o q hb hx
      · have h1 := I.base.tups b ys q
        have hba : b ≠ a := fun z => by rw [z, ha] at h1; cases h1
        rw [upd_ne hba]
        exact I'.base.tups b ys q
      · have h1 := I.base.frzs b o u q
        have hba : b ≠ a := fun z => by rw [z, ha] at h1; cases h1
        rw [upd_ne hba]
        exact I'.base.frzs b o u q
      · obtain ⟨more, h1⟩ := I.base.tbls b ps q
        have hba : b ≠ a := fun z => by rw [z, ha] at h1; cases h1
        rw [upd_ne hba]
        exact I'.base.tbls b ps q
    · rw [upd_ne hloc.symm]; exact I'.free
    · intro x c hc
      have h1 := I.freeC x c hc
      have hba : c ≠ a := fun z => by rw [z, ha] at h1; cases h1
      rw [upd_ne hba]
      exact I'.freeC x c hc
    · intro p hp
      obtain ⟨q1, q2, q3, q4, q5⟩ := I'.pin p (by
        rcases List.mem_append.mp hp with hp | hp
        · exact List.mem_append_left _ hp
        · exact List.mem_append_right _ (List.mem_append_left _ hp))
      have h1 := (I.pin p hp).2.1
      have hba : p.1 ≠ a := fun z => by rw [z, ha] at h1; cases h1
      exact ⟨q1, by rw [upd_ne hba]; exact q2, q3, q4, q5⟩
    · intro b u e
      by_cases hba : b = a
      · subst hba
        rw [upd_same] at e; cases e
        exact ⟨hz, its, n, hv, p1⟩
      · rw [upd_ne hba] at e
        refine (I'.hok b u e).stay (fun c v _ q => q) (fun c q => ?_) (fun c ys q => ?_)
        · have : c ≠ a := fun z => by rw [z, p2] at q; cases q
          rw [upd_ne this]; exact q
        · have : c ≠ a := fun z => by rw [z, p2] at q; cases q
          rw [upd_ne this]; exact q
/-- an instance and its dict -/
theorem frame2 {x dx C : Addr} {fs : List (Str × V)} (I : Inv X pins σ (upd (upd H1 dx (.own x)) x (.ins C dx fs)) s) (hx : H1 x = none) (hdx : H1 dx = none) (hne : dx ≠ x) :
    ∃ o o2, Inv X (pins ++ [(x, o), (dx, o2)]) σ H1 s ∧ ∀ (σ' : L2.St) (H' : Hp) (s' : Shared), Inv X (pins ++ [(x, o), (dx, o2)]) σ' H' s' → H' x = none ∧ H' dx = none ∧ Inv X pins σ' (upd (upd H' dx (.own x)) x (.ins C dx fs)) s' := by
  have ha : upd (upd H1 dx (.own x)) x (.ins C dx fs) x = some (.ins C dx fs) := upd_same
  have hd : upd (upd H1 dx (.own x)) x (.ins C dx fs) dx = some (.own x) := by rw [upd_ne hne, upd_same]
  obtain ⟨q1, q2, q3, q4, mA, ⟨od, es, ep, ho2, q6⟩, q7⟩ := I.hok x _ ha
  have hod : ∀ v, od.data ≠ .cell v := fun v z => by
    have := q6.1
    rw [z] at this; cases this
  have hxd : ∀ v, (PySem.W.instObj C dx).data ≠ .cell v := fun v z => by cases z
  have nn : ∀ b o, H1 b = some o → b ≠ x ∧ b ≠ dx := fun b o e => ⟨fun q => (by rw [q, hx] at e; cases e), fun q => (by rw [q, hdx] at e; cases e)⟩
  have e1 : ∀ b, b ≠ x → b ≠ dx → upd (upd H1 dx (.own x)) x (.ins C dx fs) b = H1 b := fun b hb hb2 => by rw [upd_ne hb, upd_ne hb2]
  have back : ∀ b, upd (upd H1 dx (.own x)) x (.ins C dx fs) b = none → b ≠ x ∧ b ≠ dx := fun b e => ⟨fun q => (by rw [q, ha] at e; cases e), fun q => (by rw [q, hd] at e; cases e)⟩
  have hfs : ∀ b ∈ X.fs, b ≠ x ∧ b ≠ dx := fun b hb => by
    obtain ⟨_, o, ho, _⟩ := I.ok.funs.mem hb
    exact back b (I.base.free b o ho (I.ok.frf b hb) fun z => I.ok.exfs b z hb)
  have hloc := back _ I.free
  have tup : ∀ b ys, upd (upd H1 dx (.own x)) x (.ins C dx fs) b = some (.tup ys) → b ≠ x ∧ b ≠ dx := fun b ys e => ⟨fun q => (by rw [q, ha] at e; cases e), fun q => (by rw [q, hd] at e; cases e)⟩
  have frz : ∀ b o u, upd (upd H1 dx (.own x)) x (.ins C dx fs) b = some (.frz o u) → b ≠ x ∧ b ≠ dx := fun b o u e => ⟨fun q => (by rw [q, ha] at e; cases e), fun q => (by rw [q, hd] at e; cases e)⟩
  have tbl : ∀ b ps, upd (upd H1 dx (.own x)) x (.ins C dx fs) b = some (.tbl ps) → b ≠ x ∧ b ≠ dx := fun b ps e => ⟨fun q => (by rw [q, ha] at e; cases e), fun q => (by rw [q, hd] at e; cases e)⟩
  refine ⟨PySem.W.instObj C dx, od, ⟨I.ok, I.os, I.bare, ?_, I.loc, I.cell, ?_, ?_, ?_, ?_, I.len⟩, fun σ' H' s' I' => ?_⟩
  · refine ⟨fun b o q hb hf hx' => I.base.keep b o q hb hf hx', fun b o q hb hf hx' => I.base.slot b o q hb hf hx', fun b o q hb hx' => ?_, I.base.there, fun b ys q => ?_, fun b o u q => ?_, fun b ps q => ?_⟩
    · have := I.base.free b o q hb hx'
      obtain ⟨n1, n2⟩ := back b this
      rw [e1 b n1 n2] at this; exact this
    · have := I.base.tups b ys q
      obtain ⟨n1, n2⟩ := tup b ys this
      rw [e1 b n1 n2] at this; exact this
    · have := I.base.frzs b o u q
      obtain ⟨n1, n2⟩ := frz b o u this
      rw [e1 b n1 n2] at this; exact this
    · obtain ⟨more, this⟩ := I.base.tbls b ps q
      obtain ⟨n1, n2⟩ := tbl b _ this
      rw [e1 b n1 n2] at this; exact ⟨more, this⟩
  · have := I.free
    rw [e1 _ hloc.1 hloc.2] at this; exact this
  · intro y c hc
    have := I.freeC y c hc
    obtain ⟨n1, n2⟩ := back c this
    rw [e1 c n1 n2] at this; exact this
  · intro p hp
    rw [← List.append_assoc] at hp
    rcases List.mem_append.mp hp with hp | hp
    · obtain ⟨r1, r2, r3, r4, r5⟩ := I.pin p hp
      obtain ⟨n1, n2⟩ := back _ r2
      exact ⟨r1, by rw [e1 _ n1 n2] at r2; exact r2, r3, r4, r5⟩
    · have : p = (x, PySem.W.instObj C dx) ∨ p = (dx, od) := by simpa using hp
      rcases this with rfl | rfl
      · exact ⟨q4, hx, hloc.1.symm, fun z => (hfs _ z).1 rfl, hxd⟩
      · exact ⟨ho2, hdx, hloc.2.symm, fun z => (hfs _ z).2 rfl, hod⟩
  · intro b u e
    obtain ⟨n1, n2⟩ := nn b u e
    refine (I.hok b u (by rw [e1 b n1 n2]; exact e)).stay (fun c v _ q => q) (fun c q => ?_) (fun c ys q => ?_)
    · by_cases h1 : c = x
      · rw [h1, ha] at q; cases q
      · by_cases h2 : c = dx
        · rw [h2, hd] at q
          have : x = b := by injection q with q; injection q
          exact absurd this.symm n1
        · rw [e1 c h1 h2] at q; exact q
    · obtain ⟨m1, m2⟩ := tup c ys q
      rw [e1 c m1 m2] at q; exact q
  · obtain ⟨p1, p2, _, _, _⟩ := I'.pin (x, PySem.W.instObj C dx) (by simp)
    obtain ⟨d1, d2, _, _, _⟩ := I'.pin (dx, od) (by simp)
    have p1 : s'.heap.get? x = some (PySem.W.instObj C dx) := p1
    have p2 : H' x = none := p2
    have d1 : s'.heap.get? dx = some od := d1
    have d2 : H' dx = none := d2
    have e2 : ∀ b, b ≠ x → b ≠ dx → upd (upd H' dx (.own x)) x (.ins C dx fs) b = H' b := fun b hb hb2 => by rw [upd_ne hb, upd_ne hb2]
    refine ⟨p2, d2, ⟨I'.ok, I'.os, I'.bare, ?_, I'.loc, I'.cell, ?_, ?_, ?_, ?_, I'.len⟩⟩
    · refine ⟨fun b o q hb hf hx' => I'.base.keep b o q hb hf hx', fun b o q hb hf hx' => I'.base.slot b o q hb hf hx', fun b o q hb hx' => ?_, I'.base.there, fun b ys q => ?_, fun b o u q => ?_, fun b ps q => ?_⟩
      · obtain ⟨n1, n2⟩ := back b (I.base.free b o q hb hx')
        rw [e2 b n1 n2]
        exact I'.base.free b o q hb hx'
      · obtain ⟨n1, n2⟩ := tup b ys (I.base.tups b ys q)
        rw [e2 b n1 n2]
        exact I'.base.tups b ys q
      · obtain ⟨n1, n2⟩ := frz b o u (I.base.frzs b o u q)
        rw [e2 b n1 n2]
        exact I'.base.frzs b o u q
      · obtain ⟨more, h1⟩ := I.base.tbls b ps q
        obtain ⟨n1, n2⟩ := tbl b _ h1
        rw [e2 b n1 n2]
        exact I'.base.tbls b ps q
    · rw [e2 _ hloc.1 hloc.2]; exact I'.free
    · intro y c hc
      obtain ⟨n1, n2⟩ := back c (I.freeC y c hc)
      rw [e2 c n1 n2]
      exact I'.freeC y c hc
    · intro p hp
      obtain ⟨r1, r2, r3, r4, r5⟩ := I'.pin p (by
        rcases List.mem_append.mp hp with hp | hp
        · exact List.mem_append_left _ hp
        · exact List.mem_append_right _ (List.mem_append_left _ hp))
      obtain ⟨n1, n2⟩ := back _ (I.pin p hp).2.1
      exact ⟨r1, by rw [e2 _ n1 n2]; exact r2, r3, r4, r5⟩
    · intro b u e
      by_cases hbx : b = x
      · subst hbx
        rw [upd_same] at e; cases e
        exact ⟨by rw [upd_ne hne, upd_same], q2, q3, p1, mA, ⟨od, es, ep, d1, q6⟩, q7⟩
      · by_cases hbd : b = dx
        · subst hbd
          rw [upd_ne hne, upd_same] at e; cases e
          exact ⟨od, d1⟩
        · rw [e2 b hbx hbd] at e
          refine (I'.hok b u e).stay (fun c v _ q => q) (fun c q => ?_) (fun c ys q => ?_)
          · have n1 : c ≠ x := fun z => by rw [z, p2] at q; cases q
            have n2 : c ≠ dx := fun z => by rw [z, d2] at q; cases q
            rw [e2 c n1 n2]; exact q
          · have n1 : c ≠ x := fun z => by rw [z, p2] at q; cases q
            have n2 : c ≠ dx := fun z => by rw [z, d2] at q; cases q
            rw [e2 c n1 n2]; exact q
end
end K31
set_option Elab.async false
set_option linter.all false
set_option maxRecDepth 100000
set_option maxHeartbeats 1000000
/-! T1: typed contexts over the layer: what the slots hold, which lists are being changed. -/
namespace K31
open PySem PySem.Spec L2
/-- what is known of a value; it stays as the heap grows -/
structure VP where
  p : V → Hp → Prop
  m : ∀ v H H', Same H H' → p v H → p v H'
theorem same_upd {H : Hp} {a : Addr} {o : HO} (h : H a = none) : Same H (upd H a o) := fun b u e => by
  rw [upd_ne (ne_of_none e h)]; exact e
/-! ### slots -/
abbrev Ctx := List (Option VP)
def OkS : Ctx → L2.St → Hp → Prop
  | [], [], _ => True
  | none :: G, _ :: t, H => OkS G t H
  | some P :: G, some v :: t, H => P.p v H ∧ OkS G t H
  | _, _, _ => False
theorem OkS.mono : ∀ {G : Ctx} {t : L2.St} {H H' : Hp}, Same H H' → OkS G t H → OkS G t H'
  | [], [], _, _, _, _ => trivial
  | none :: G, _ :: t, _, _, s, h => OkS.mono (G := G) (t := t) s h
  | some P :: G, some v :: t, _, _, s, h => ⟨P.m _ _ _ s h.1, OkS.mono (G := G) (t := t) s h.2⟩
  | [], _ :: _, _, _, _, h => h.elim
  | none :: _, [], _, _, _, h => h.elim
  | some _ :: _, [], _, _, _, h => h.elim
  | some _ :: _, none :: _, _, _, _, h => h.elim
theorem OkS.get : ∀ {G : Ctx} {t : L2.St} {H : Hp} {i : Nat} {P : VP}, OkS G t H → G[i]? = some (some P) → ∃ v, t[i]? = some (some v) ∧ P.p v H
  | some P :: G, some v :: t, H, 0, Q, h, e => by
    have : P = Q := by simpa using e
    subst this
    exact ⟨v, rfl, h.1⟩
  | some P :: G, some v :: t, H, i + 1, Q, h, e => OkS.get (G := G) (t := t) (i := i) h.2 (by simpa using e)
  | none :: G, x :: t, H, i + 1, Q, h, e => OkS.get (G := G) (t := t) (i := i) h (by simpa using e)
  | none :: G, x :: t, H, 0, Q, h, e => by simp at e
  | [], _, _, _, _, _, e => by simp at e
  | none :: _, [], _, _, _, h, _ => h.elim
  | some _ :: _, [], _, _, _, h, _ => h.elim
  | some _ :: _, none :: _, _, _, _, h, _ => h.elim
theorem OkS.set : ∀ {G : Ctx} {t : L2.St} {H : Hp} {i : Nat} {P : VP} {v : V}, OkS G t H → P.p v H → OkS (G.set i (some P)) (t.set i (some v)) H
  | [], [], _, _, _, _, _, _ => trivial
  | some P :: G, some v :: t, H, 0, Q, w, h, e => ⟨e, h.2⟩
  | none :: G, x :: t, H, 0, Q, w, h, e => ⟨e, h⟩
  | some P :: G, some v :: t, H, i + 1, Q, w, h, e => ⟨h.1, OkS.set (G := G) (t := t) h.2 e⟩
  | none :: G, x :: t, H, i + 1, Q, w, h, e => OkS.set (G := G) (t := t) h e
  | [], _ :: _, _, _, _, _, h, _ => h.elim
  | none :: _, [], _, _, _, _, h, _ => h.elim
  | some _ :: _, [], _, _, _, _, h, _ => h.elim
  | some _ :: _, none :: _, _, _, _, _, h, _ => h.elim
/-- fewer things known -/
def SubC : Ctx → Ctx → Prop
  | [], [] => True
  | none :: G, _ :: G' => SubC G G'
  | some P :: G, some Q :: G' => P = Q ∧ SubC G G'
  | _, _ => False
theorem OkS.sub : ∀ {G G' : Ctx} {t : L2.St} {H : Hp}, SubC G G' → OkS G' t H → OkS G t H
  | [], [], _, _, _, h => h
  | none :: G, none :: G', x :: t, H, s, h => OkS.sub (G := G) (G' := G') (t := t) s h
  | none :: G, some Q :: G', some x :: t, H, s, h => OkS.sub (G := G) (G' := G') (t := t) s h.2
  | some P :: G, some Q :: G', some x :: t, H, s, h => ⟨s.1 ▸ h.1, OkS.sub (G := G) (G' := G') (t := t) s.2 h.2⟩
  | none :: G, some Q :: G', none :: t, H, s, h => h.elim
  | some P :: G, some Q :: G', none :: t, H, s, h => h.elim
  | none :: _, none :: _, [], _, _, h => h.elim
  | none :: _, some _ :: _, [], _, _, h => h.elim
  | some _ :: _, some _ :: _, [], _, _, h => h.elim
  | [], _ :: _, _, _, s, _ => s.elim
  | none :: _, [], _, _, s, _ => s.elim
  | some _ :: _, [], _, _, s, _ => s.elim
  | some _ :: _, none :: _, _, _, s, _ => s.elim
theorem SubC.refl : ∀ G : Ctx, SubC G G
  | [] => trivial
  | none :: G => SubC.refl G
  | some _ :: G => ⟨rfl, SubC.refl G⟩

/-! ### items -/
def Items : List VP → List V → Hp → Prop
  | [], [], _ => True
  | P :: Ps, x :: xs, H => P.p x H ∧ Items Ps xs H
  | _, _, _ => False
theorem Items.mono : ∀ {Ps : List VP} {xs : List V} {H H' : Hp}, Same H H' → Items Ps xs H → Items Ps xs H'
  | [], [], _, _, _, _ => trivial
  | P :: Ps, x :: xs, _, _, s, h => ⟨P.m _ _ _ s h.1, Items.mono s h.2⟩
  | [], _ :: _, _, _, _, h => h.elim
  | _ :: _, [], _, _, _, h => h.elim
theorem Items.len : ∀ {Ps : List VP} {xs : List V} {H : Hp}, Items Ps xs H → xs.length = Ps.length
  | [], [], _, _ => rfl
  | P :: Ps, x :: xs, _, h => by rw [List.length_cons, List.length_cons, Items.len h.2]
  | [], _ :: _, _, h => h.elim
  | _ :: _, [], _, h => h.elim
theorem Items.get : ∀ {Ps : List VP} {xs : List V} {H : Hp} {i : Nat} {P : VP}, Items Ps xs H → Ps[i]? = some P → ∃ x, xs[i]? = some x ∧ P.p x H
  | P :: Ps, x :: xs, H, 0, Q, h, e => by
    have : P = Q := by simpa using e
    subst this
    exact ⟨x, rfl, h.1⟩
  | P :: Ps, x :: xs, H, i + 1, Q, h, e => Items.get (Ps := Ps) (xs := xs) (i := i) h.2 (by simpa using e)
  | [], _, _, _, _, _, e => by simp at e
  | _ :: _, [], _, _, _, h, _ => h.elim
theorem Items.set : ∀ {Ps : List VP} {xs : List V} {H : Hp} {i : Nat} {P : VP} {x : V}, Items Ps xs H → P.p x H → Items (Ps.set i P) (xs.set i x) H
  | [], [], _, _, _, _, _, _ => trivial
  | P :: Ps, x :: xs, H, 0, Q, y, h, e => ⟨e, h.2⟩
  | P :: Ps, x :: xs, H, i + 1, Q, y, h, e => ⟨h.1, Items.set h.2 e⟩
  | [], _ :: _, _, _, _, _, h, _ => h.elim
  | _ :: _, [], _, _, _, _, h, _ => h.elim
theorem Items.append : ∀ {Ps Qs : List VP} {xs ys : List V} {H : Hp}, Items Ps xs H → Items Qs ys H → Items (Ps ++ Qs) (xs ++ ys) H
  | [], _, [], _, _, _, k => k
  | P :: Ps, Qs, x :: xs, ys, H, h, k => ⟨h.1, Items.append h.2 k⟩
  | [], _, _ :: _, _, _, h, _ => h.elim
  | _ :: _, _, [], _, _, h, _ => h.elim
theorem Items.take : ∀ {Ps : List VP} {xs : List V} {H : Hp} (n : Nat), Items Ps xs H → Items (Ps.take n) (xs.take n) H
  | [], [], _, n, _ => by simp; trivial
  | P :: Ps, x :: xs, H, 0, h => trivial
  | P :: Ps, x :: xs, H, n + 1, h => ⟨h.1, Items.take n h.2⟩
  | [], _ :: _, _, _, h => h.elim
  | _ :: _, [], _, _, h => h.elim
theorem Items.drop : ∀ {Ps : List VP} {xs : List V} {H : Hp} (n : Nat), Items Ps xs H → Items (Ps.drop n) (xs.drop n) H
  | [], [], _, n, _ => by simp; trivial
  | P :: Ps, x :: xs, H, 0, h => h
  | P :: Ps, x :: xs, H, n + 1, h => Items.drop n h.2
  | [], _ :: _, _, _, h => h.elim
  | _ :: _, [], _, _, h => h.elim

/-! ### fields -/
def FIt : List (Str × VP) → List (Str × V) → Hp → Prop
  | [], [], _ => True
  | (f, P) :: Ps, (g, x) :: xs, H => f = g ∧ P.p x H ∧ FIt Ps xs H
  | _, _, _ => False
theorem FIt.mono : ∀ {Ps : List (Str × VP)} {xs : List (Str × V)} {H H' : Hp}, Same H H' → FIt Ps xs H → FIt Ps xs H'
  | [], [], _, _, _, _ => trivial
  | (f, P) :: Ps, (g, x) :: xs, _, _, s, h => ⟨h.1, P.m _ _ _ s h.2.1, FIt.mono s h.2.2⟩
  | [], _ :: _, _, _, _, h => h.elim
  | _ :: _, [], _, _, _, h => h.elim
def putP (f : Str) (P : VP) : List (Str × VP) → List (Str × VP)
  | [] => [(f, P)]
  | (g, x) :: r => if g = f then (g, P) :: r else (g, x) :: putP f P r
theorem FIt.put : ∀ {Ps : List (Str × VP)} {xs : List (Str × V)} {H : Hp} {f : Str} {P : VP} {x : V}, FIt Ps xs H → P.p x H → FIt (putP f P Ps) (putF f x xs) H
  | [], [], _, _, _, _, _, e => ⟨rfl, e, trivial⟩
  | (g, Q) :: Ps, (g', y) :: xs, H, f, P, x, h, e => by
    have hg : g = g' := h.1
    subst hg
    show FIt (if g = f then (g, P) :: Ps else (g, Q) :: putP f P Ps) (if g = f then (g, x) :: xs else (g, y) :: putF f x xs) H
    split
    · exact ⟨rfl, e, h.2.2⟩
    · exact ⟨rfl, h.2.1, FIt.put h.2.2 e⟩
  | [], _ :: _, _, _, _, _, h, _ => h.elim
  | _ :: _, [], _, _, _, _, h, _ => h.elim
theorem FIt.get : ∀ {Ps : List (Str × VP)} {xs : List (Str × V)} {H : Hp} {f : Str} {P : VP}, FIt Ps xs H → Ps.lookup f = some P → ∃ x, xs.lookup f = some x ∧ P.p x H
  | (g, Q) :: Ps, (g', y) :: xs, H, f, P, h, e => by
    have hg : g = g' := h.1
    subst hg
    rw [List.lookup_cons] at e ⊢
    cases q : (f == g) with
    | true =>
      rw [q] at e
      have : Q = P := by simpa using e
      subst this
      exact ⟨y, by simp, h.2.1⟩
    | false =>
      rw [q] at e
      exact FIt.get h.2.2 e
  | [], _, _, _, _, _, e => by simp at e
  | _ :: _, [], _, _, _, h, _ => h.elim
theorem FIt.len : ∀ {Ps : List (Str × VP)} {xs : List (Str × V)} {H : Hp}, FIt Ps xs H → xs.length = Ps.length
  | [], [], _, _ => rfl
  | _ :: Ps, _ :: xs, _, h => by rw [List.length_cons, List.length_cons, FIt.len h.2.2]
  | [], _ :: _, _, h => h.elim
  | _ :: _, [], _, h => h.elim
theorem FIt.none : ∀ {Ps : List (Str × VP)} {xs : List (Str × V)} {H : Hp} {f : Str}, FIt Ps xs H → Ps.lookup f = Option.none → xs.lookup f = Option.none
  | (g, Q) :: Ps, (g', y) :: xs, H, f, h, e => by
    have hg : g = g' := h.1
    subst hg
    rw [List.lookup_cons] at e ⊢
    cases q : (f == g) with
    | true => rw [q] at e; simp at e
    | false => rw [q] at e; exact FIt.none h.2.2 e
  | [], [], _, _, _, _ => rfl
  | [], _ :: _, _, _, h, _ => h.elim
  | _ :: _, [], _, _, h, _ => h.elim
/-! ### the lists and instances that are being changed: laid over the rest -/
inductive ME where
  | l (a : Addr) (xs : List V)
  | i (x dx C : Addr) (fs : List (Str × V))
def lay1 : ME → Hp → Hp
  | .l a xs, H => upd H a (.lst xs)
  | .i x dx C fs, H => upd (upd H dx (.own x)) x (.ins C dx fs)
def fr1 : ME → Hp → Prop
  | .l a _, H => H a = none
  | .i x dx _ _, H => H x = none ∧ H dx = none ∧ dx ≠ x
def lay : List ME → Hp → Hp
  | [], H => H
  | e :: L, H => lay1 e (lay L H)
def FrL : List ME → Hp → Prop
  | [], _ => True
  | e :: L, H => fr1 e (lay L H) ∧ FrL L H
inductive MT where
  | l (a : Addr) (Ps : List VP)
  | i (x dx C : Addr) (fs : List (Str × VP))
abbrev MCtx := List MT
def MIt1 : MT → ME → Hp → Prop
  | .l a Ps, .l b xs, H => a = b ∧ Items Ps xs H
  | .i x dx C fs, .i y dy D gs, H => x = y ∧ dx = dy ∧ C = D ∧ FIt fs gs H
  | _, _, _ => False
def MIt : MCtx → List ME → Hp → Prop
  | [], [], _ => True
  | m :: M, e :: L, H => MIt1 m e H ∧ MIt M L H
  | _, _, _ => False
def OkM (M : MCtx) (Hf H : Hp) : Prop := ∃ L, H = lay L Hf ∧ FrL L Hf ∧ MIt M L Hf
theorem same_lay1 {e : ME} {H : Hp} (h : fr1 e H) : Same H (lay1 e H) := by
  cases e with
  | l a xs => exact same_upd h
  | i x dx C fs => exact (same_upd h.2.1).trans (same_upd (by rw [upd_ne h.2.2.symm]; exact h.1))
theorem same_lay : ∀ {L : List ME} {H : Hp}, FrL L H → Same H (lay L H)
  | [], _, _ => fun _ _ e => e
  | e :: L, H, h => (same_lay h.2).trans (same_lay1 h.1)
theorem OkM.same {M : MCtx} {Hf H : Hp} (h : OkM M Hf H) : Same Hf H := by
  obtain ⟨L, rfl, h, _⟩ := h
  exact same_lay h
theorem okm_nil (H : Hp) : OkM [] H H := ⟨[], rfl, trivial, trivial⟩
theorem OkM.nil {Hf H : Hp} (h : OkM [] Hf H) : H = Hf := by
  obtain ⟨L, rfl, h, m⟩ := h
  cases L with
  | nil => rfl
  | cons _ _ => exact m.elim
theorem MIt1.mono {m : MT} {e : ME} {H H' : Hp} (s : Same H H') (h : MIt1 m e H) : MIt1 m e H' := by
  cases m <;> cases e
  · exact ⟨h.1, h.2.mono s⟩
  · exact h.elim
  · exact h.elim
  · exact ⟨h.1, h.2.1, h.2.2.1, h.2.2.2.mono s⟩
theorem MIt.mono : ∀ {M : MCtx} {L : List ME} {H H' : Hp}, Same H H' → MIt M L H → MIt M L H'
  | [], [], _, _, _, _ => trivial
  | m :: M, e :: L, _, _, s, h => ⟨h.1.mono s, MIt.mono s h.2⟩
  | [], _ :: _, _, _, _, h => h.elim
  | _ :: _, [], _, _, _, h => h.elim
section
variable {X : Cx}
theorem frameE {e : ME} {pins : List (Addr × Obj)} {t : L2.St} {H1 : Hp} {s : Shared} (I : Inv X pins t (lay1 e H1) s) (h : fr1 e H1) :
    ∃ ps, Inv X (pins ++ ps) t H1 s ∧ ∀ (t' : L2.St) (H' : Hp) (s' : Shared), Inv X (pins ++ ps) t' H' s' → fr1 e H' ∧ Inv X pins t' (lay1 e H') s' := by
  cases e with
  | l a xs =>
    obtain ⟨o, I1, back⟩ := frame1 I h
    exact ⟨_, I1, back⟩
  | i x dx C fs =>
    obtain ⟨o, o2, I1, back⟩ := frame2 I h.1 h.2.1 h.2.2
    refine ⟨_, I1, fun t' H' s' I' => ?_⟩
    obtain ⟨h1, h2, h3⟩ := back t' H' s' I'
    exact ⟨⟨h1, h2, h.2.2⟩, h3⟩
theorem frameL : ∀ {L : List ME} {pins : List (Addr × Obj)} {t : L2.St} {Hf : Hp} {s : Shared}, Inv X pins t (lay L Hf) s → FrL L Hf →
    ∃ ps, Inv X (pins ++ ps) t Hf s ∧ ∀ (t' : L2.St) (Hf' : Hp) (s' : Shared), Inv X (pins ++ ps) t' Hf' s' → FrL L Hf' ∧ Inv X pins t' (lay L Hf') s'
  | [], pins, t, Hf, s, I, _ => ⟨[], by rw [List.append_nil]; exact I, fun t' Hf' s' I' => ⟨trivial, by rw [List.append_nil] at I'; exact I'⟩⟩
  | e :: L, pins, t, Hf, s, I, h => by
    obtain ⟨p1, I1, back⟩ := frameE I h.1
    obtain ⟨ps, I2, back2⟩ := frameL I1 h.2
    refine ⟨p1 ++ ps, by rw [← List.append_assoc]; exact I2, fun t' Hf' s' I' => ?_⟩
    rw [← List.append_assoc] at I'
    obtain ⟨f, I3⟩ := back2 _ _ _ I'
    obtain ⟨n, I4⟩ := back _ _ _ I3
    exact ⟨⟨n, f⟩, I4⟩
/-- the frame in the words of a context: with the changing lists out of sight -/
theorem frameM {M : MCtx} {pins : List (Addr × Obj)} {t : L2.St} {Hf H : Hp} {s : Shared} (I : Inv X pins t H s) (m : OkM M Hf H) :
    ∃ ps, Inv X (pins ++ ps) t Hf s ∧ ∀ (t' : L2.St) (Hf' : Hp) (s' : Shared), Same Hf Hf' → Inv X (pins ++ ps) t' Hf' s' → ∃ H', OkM M Hf' H' ∧ Inv X pins t' H' s' := by
  obtain ⟨L, rfl, f, mi⟩ := m
  obtain ⟨ps, I1, back⟩ := frameL I f
  refine ⟨ps, I1, fun t' Hf' s' sm I' => ?_⟩
  obtain ⟨f', I2⟩ := back _ _ _ I'
  exact ⟨_, ⟨L, rfl, f', mi.mono sm⟩, I2⟩

/-! ### expressions -/
def rd (G : Ctx) (M : MCtx) (P : VP) : TE := fun t H Q => ∃ Hf, OkS G t Hf ∧ OkM M Hf H ∧ ∀ v Hf' H', Same Hf Hf' → OkM M Hf' H' → P.p v Hf' → Q v H'
def TyE (X : Cx) (e : Expr) (G : Ctx) (M : MCtx) (P : VP) : Prop := PE X e (rd G M P)
theorem PE.imp {e : Expr} {t t' : TE} (h : PE X e t) (k : ∀ s H Q, t' s H Q → t s H Q) : PE X e t' := ⟨fun pins s t H Q I w => h.run pins s t H Q I (k _ _ _ w)⟩
theorem PT.imp {e : Expr} {t t' : TT} (h : PT X e t) (k : ∀ s H Q, t' s H Q → t s H Q) : PT X e t' := ⟨fun pins s t H Q I w => h.run pins s t H Q I (k _ _ _ w)⟩
theorem PW.imp {e : Expr} {t t' : TT} (h : PW X e t) (k : ∀ s H Q, t' s H Q → t s H Q) : PW X e t' := ⟨fun w pins s t H Q I v => h.run w pins s t H Q I (k _ _ _ v)⟩
theorem PA.imp {es : List Expr} {t t' : TA} (h : PA X es t) (k : ∀ s H Q, t' s H Q → t s H Q) : PA X es t' := ⟨fun pos pins s t H Q I w => h.run pos pins s t H Q I (k _ _ _ w)⟩
theorem PSs.imp {sts : List Stmt} {t t' : TS} (h : PSs X sts t) (k : ∀ D s H, t' D s H → t D s H) : PSs X sts t' := ⟨fun pins s t H D I w => h.run pins s t H D I (k _ _ _ w)⟩
/-- what needs none of the changing lists -/
theorem TyE.frame {e : Expr} {G : Ctx} {M : MCtx} {P : VP} (h : TyE X e G [] P) : TyE X e G M P := by
  refine ⟨fun pins s t H Q I w => ?_⟩
  obtain ⟨Hf, o, m, k⟩ := w
  obtain ⟨ps, I1, back⟩ := frameM I m
  refine thn (h.run (pins ++ ps) s t Hf (fun v Hf' => Same Hf Hf' ∧ P.p v Hf') I1 ⟨Hf, o, okm_nil Hf, fun v Hf' H' sm m' p => ?_⟩) fun u s' ⟨v, Hf', I2, r, sm, p⟩ => ?_
  · have e := m'.nil
    subst e
    exact ⟨sm, p⟩
  · obtain ⟨H', m', I3⟩ := back _ _ _ sm I2
    exact ⟨v, H', I3, r, k v Hf' H' sm m' p⟩
variable {G : Ctx} {M : MCtx} {P Pa Pb Pc : VP} {a b c : Expr} {pos : Pos}
theorem e_nm (i : Nat) {x : Str} (hN : X.N[i]? = some x := by rfl) (hv : Vis X.env.scope x := by first | exact Or.inl rfl | exact Or.inr (Or.inl rfl) | exact Or.inr (Or.inr rfl)) (hG : G[i]? = some (some P) := by rfl)
    (hd : (x == ("__debug__" : Str)) = false := by decide) (hcd : (x == ("__classdict__" : Str)) = false := by decide) : TyE X (.Name x pos) G M P :=
  PE.imp (pe_var hN hv hd hcd) fun t H Q ⟨Hf, o, m, k⟩ => by
    obtain ⟨v, hv, hp⟩ := o.get hG
    exact ⟨v, hv, k v Hf H (Same.refl Hf) m hp⟩
theorem vp_const {p : V → Prop} : ∀ v H H', Same H H' → (fun v (_ : Hp) => p v) v H → (fun v (_ : Hp) => p v) v H' := fun _ _ _ _ h => h
def vC (v0 : V) : VP := ⟨fun v _ => v = v0, fun _ _ _ _ h => h⟩
abbrev vI (i : Int) : VP := vC (.int i)
abbrev vB (b : Bool) : VP := vC (.bl b)
abbrev vN : VP := vC .non
abbrev vS (z : Str) : VP := vC (.str z)
abbrev vAt (a : Addr) : VP := vC (.ref a)
abbrev vTy (n : String) : VP := vC (.ty n)
theorem e_c {v : V} {e : Expr} (h : PE X e (tC v)) : TyE X e G M (vC v) := PE.imp h fun t H Q ⟨Hf, o, m, k⟩ => k v Hf H (Same.refl Hf) m rfl
theorem e_int {i : Int} {j : Nat} : TyE X (.Constant (.int i) j pos) G M (vI i) := e_c pe_int
theorem e_bl {b : Bool} {j : Nat} : TyE X (.Constant (.bool b) j pos) G M (vB b) := e_c pe_bl
theorem e_non {j : Nat} : TyE X (.Constant .none j pos) G M vN := e_c pe_non
theorem e_str {z : Str} {j : Nat} : TyE X (.Constant (.str z) j pos) G M (vS z) := e_c pe_str
/-- an operation by the values -/
def rd2 (Pa Pb P : VP) : R2 := fun x y H Q => Pa.p x H ∧ Pb.p y H ∧ ∀ v H', Same H H' → P.p v H' → Q v H'
def OpT (X : Cx) (f : Value → Value → Sem Value) (Pa Pb P : VP) : Prop := OpR X f (rd2 Pa Pb P)
def rd1 (Pa P : VP) : V → Hp → VK → Prop := fun x H Q => Pa.p x H ∧ ∀ v H', Same H H' → P.p v H' → Q v H'
def UnT (X : Cx) (f : Value → Sem Value) (Pa P : VP) : Prop := UnR X f (rd1 Pa P)
def rd2M (M : MCtx) (Pa Pb P : VP) : R2 := fun x y H Q => ∃ Hf, OkM M Hf H ∧ Pa.p x Hf ∧ Pb.p y Hf ∧ ∀ v Hf' H', Same Hf Hf' → OkM M Hf' H' → P.p v Hf' → Q v H'
theorem OpT.frame {f : Value → Value → Sem Value} (h : OpT X f Pa Pb P) : OpR X f (rd2M M Pa Pb P) := by
  intro pins s t H x y v u Q I rx ry w
  obtain ⟨Hf, m, pa, pb, k⟩ := w
  obtain ⟨ps, I1, back⟩ := frameM I m
  refine thn (h (pins ++ ps) s t Hf x y v u (fun v Hf' => Same Hf Hf' ∧ P.p v Hf') I1 rx ry ⟨pa, pb, fun v H' sm p => ⟨sm, p⟩⟩) fun z s' ⟨v', Hf', I2, r, sm, p⟩ => ?_
  obtain ⟨H', m', I3⟩ := back _ _ _ sm I2
  exact ⟨v', H', I3, r, k v' Hf' H' sm m' p⟩
theorem rd_two {r : R2} {t : L2.St} {H : Hp} {Q : VK} (h : rd G M P t H Q) (hr : ∀ x y Hf H, OkM M Hf H → Pa.p x Hf → Pb.p y Hf → ∀ Q : VK, (∀ v Hf' H', Same Hf Hf' → OkM M Hf' H' → P.p v Hf' → Q v H') → r x y H Q) : tOp r (rd G M Pa) (rd G M Pb) t H Q := by
  obtain ⟨Hf, o, m, k⟩ := h
  refine ⟨Hf, o, m, fun x H1f H1 s1 m1 pa => ?_⟩
  refine ⟨H1f, o.mono s1, m1, fun y H2f H2 s2 m2 pb => ?_⟩
  exact hr x y H2f H2 m2 (Pa.m _ _ _ s2 pa) pb _ fun v Hf' H' sm m' p => k v Hf' H' ((s1.trans s2).trans sm) m' p
theorem e_bin {op : Operator} (ha : TyE X a G M Pa) (hb : TyE X b G M Pb) (ho : OpT X (binaryOp op) Pa Pb P) : TyE X (.BinOp a op b pos) G M P :=
  PE.imp (pe_op ho.frame ha hb) fun t H Q h => rd_two h fun x y Hf H m pa pb Q k => ⟨Hf, m, pa, pb, k⟩
theorem UnT.frame {f : Value → Sem Value} (h : UnT X f Pa P) : UnR X f (fun x H Q => ∃ Hf, OkM M Hf H ∧ Pa.p x Hf ∧ ∀ v Hf' H', Same Hf Hf' → OkM M Hf' H' → P.p v Hf' → Q v H') := by
  intro pins s t H x v Q I rx w
  obtain ⟨Hf, m, pa, k⟩ := w
  obtain ⟨ps, I1, back⟩ := frameM I m
  refine thn (h (pins ++ ps) s t Hf x v (fun v Hf' => Same Hf Hf' ∧ P.p v Hf') I1 rx ⟨pa, fun v H' sm p => ⟨sm, p⟩⟩) fun z s' ⟨v', Hf', I2, r, sm, p⟩ => ?_
  obtain ⟨H', m', I3⟩ := back _ _ _ sm I2
  exact ⟨v', H', I3, r, k v' Hf' H' sm m' p⟩
theorem e_un {op : UnaryOp} (ha : TyE X a G M Pa) (ho : UnT X (unaryOp op) Pa P) : TyE X (.UnaryOp op a pos) G M P :=
  PE.imp (pe_un ho.frame ha) fun t H Q ⟨Hf, o, m, k⟩ => ⟨Hf, o, m, fun x H1f H1 s1 m1 pa => ⟨H1f, m1, pa, fun v Hf' H' sm m' p => k v Hf' H' (s1.trans sm) m' p⟩⟩
theorem e_cmp {op : CmpOp} (ha : TyE X a G M Pa) (hb : TyE X b G M Pb) (ho : OpT X (compareOp op) Pa Pb P) (hm : behindInMarks op b = false := by first | exact nomark _ | rfl) : TyE X (.Compare a [op] [b] pos) G M P :=
  PE.imp (pe_cmpR ho.frame ha hb hm) fun t H Q h => rd_two h fun x y Hf H m pa pb Q k => ⟨Hf, m, pa, pb, k⟩
theorem opT_of {f : Value → Value → Sem Value} {r : R2} (h : OpR X f r) (k : ∀ x y H, Pa.p x H → Pb.p y H → ∀ Q : VK, (∀ v H', Same H H' → P.p v H' → Q v H') → r x y H Q) : OpT X f Pa Pb P :=
  fun pins s t H x y v u Q I rx ry w => h pins s t H x y v u Q I rx ry (k x y H w.1 w.2.1 Q w.2.2)
theorem unT_of {f : Value → Sem Value} {r : V → Hp → VK → Prop} (h : UnR X f r) (k : ∀ x H, Pa.p x H → ∀ Q : VK, (∀ v H', Same H H' → P.p v H' → Q v H') → r x H Q) : UnT X f Pa P :=
  fun pins s t H x v Q I rx w => h pins s t H x v Q I rx (k x H w.1 Q w.2)
theorem o_int {f : Value → Value → Sem Value} {g : Int → Int → V} (h : OpR X f (rI0 g)) {i j : Int} : OpT X f (vI i) (vI j) (vC (g i j)) :=
  opT_of h fun x y H e e' Q q => ⟨i, j, e, e', q _ H (Same.refl H) rfl⟩
theorem o_add {i j : Int} : OpT X (binaryOp .Add) (vI i) (vI j) (vI (i + j)) := o_int op_add
theorem o_sub {i j : Int} : OpT X (binaryOp .Sub) (vI i) (vI j) (vI (i - j)) := o_int op_sub
theorem o_lt {i j : Int} : OpT X (compareOp .Lt) (vI i) (vI j) (vB (decide (i < j))) := o_int op_lt
theorem o_le {i j : Int} : OpT X (compareOp .LtE) (vI i) (vI j) (vB (decide (i ≤ j))) := o_int op_le
theorem o_gt {i j : Int} : OpT X (compareOp .Gt) (vI i) (vI j) (vB (decide (j < i))) := o_int op_gt
theorem o_ge {i j : Int} : OpT X (compareOp .GtE) (vI i) (vI j) (vB (decide (j ≤ i))) := o_int op_ge
theorem o_eq {i j : Int} : OpT X (compareOp .Eq) (vI i) (vI j) (vB (decide (i = j))) := opT_of op_eq fun x y H e e' Q q => by
  have e : x = .int i := e
  have e' : y = .int j := e'
  subst e e'
  refine ⟨rfl, q _ H (Same.refl H) ?_⟩
  show V.bl (decide (V.int i = V.int j)) = V.bl (decide (i = j))
  congr 1
  exact decide_eq_decide.mpr ⟨fun h => by injection h, fun h => by rw [h]⟩
theorem o_ne {i j : Int} : OpT X (compareOp .NotEq) (vI i) (vI j) (vB (!decide (i = j))) := opT_of op_ne fun x y H e e' Q q => by
  have e : x = .int i := e
  have e' : y = .int j := e'
  subst e e'
  refine ⟨rfl, q _ H (Same.refl H) ?_⟩
  show V.bl (!decide (V.int i = V.int j)) = V.bl (!decide (i = j))
  congr 2
  exact decide_eq_decide.mpr ⟨fun h => by injection h, fun h => by rw [h]⟩
theorem u_neg {i : Int} : UnT X (unaryOp .USub) (vI i) (vI (-i)) := unT_of un_neg fun x H e Q q => ⟨i, e, q _ H (Same.refl H) rfl⟩

/-! ### tests -/
def rdT (G : Ctx) (M : MCtx) (b : Bool) : TT := fun t H Q => ∃ Hf, OkS G t Hf ∧ OkM M Hf H ∧ ∀ Hf' H', Same Hf Hf' → OkM M Hf' H' → Q b H'
def TyT (X : Cx) (e : Expr) (G : Ctx) (M : MCtx) (b : Bool) : Prop := PT X e (rdT G M b)
theorem t_cmp {op : CmpOp} {k : Bool} (ha : TyE X a G M Pa) (hb : TyE X b G M Pb) (ho : OpT X (compareOp op) Pa Pb (vB k)) (hm : behindInMarks op b = false := by first | exact nomark _ | rfl) : TyT X (.Compare a [op] [b] pos) G M k :=
  PT.imp (pt_cmpR ho.frame ha hb hm) fun t H Q ⟨Hf, o, m, q⟩ => rd_two (P := vB k) ⟨Hf, o, m, fun v Hf' H' sm m' (p : v = .bl k) => ⟨k, p, q Hf' H' sm m'⟩⟩ fun x y Hf H m pa pb Q k => ⟨Hf, m, pa, pb, k⟩
theorem t_val {e : Expr} {k : Bool} (h : TyE X e G M (vB k)) (he : ∀ whole, isTrue e X.env whole = (do let v ← whole; standAt e.pos; holding [v] (truthy v)) := by intro _; rfl) : TyT X e G M k :=
  PT.imp (pt_val h he) fun t H Q ⟨Hf, o, m, q⟩ => ⟨Hf, o, m, fun v Hf' H' sm m' (p : v = .bl k) => ⟨k, p, q Hf' H' sm m'⟩⟩
theorem t_not {k : Bool} (h : TyT X a G M k) : TyT X (.UnaryOp .Not a pos) G M (!k) := PT.imp (pt_not h) fun t H Q ⟨Hf, o, m, q⟩ => ⟨Hf, o, m, q⟩
/-- a chain of and, or -/
def TyW (X : Cx) (e : Expr) (G : Ctx) (M : MCtx) (b : Bool) : Prop := PW X e (rdT G M b)
theorem w_and1 {k : Bool} (h : TyT X a G M k) : TyW X (.BoolOp .And [a] pos) G M k := pw_and1 h
theorem w_or1 {k : Bool} (h : TyT X a G M k) : TyW X (.BoolOp .Or [a] pos) G M k := pw_or1 h
theorem w_and {j k : Bool} {rest : List Expr} (h1 : TyT X a G M j) (h2 : j = true → TyW X (.BoolOp .And (b :: rest) pos) G M k) : TyW X (.BoolOp .And (a :: b :: rest) pos) G M (j && k) := by
  cases j with
  | true => exact PW.imp (pw_and h1 (h2 rfl)) fun t H Q ⟨Hf, o, m, q⟩ => ⟨Hf, o, m, fun Hf' H' sm m' => ⟨Hf', o.mono sm, m', fun H2f H2 s2 m2 => q H2f H2 (sm.trans s2) m2⟩⟩
  | false => exact PW.imp (pw_and (tB' := fun _ _ _ => False) h1 ⟨fun _ _ _ _ _ _ _ z => z.elim⟩) fun t H Q ⟨Hf, o, m, q⟩ => ⟨Hf, o, m, fun Hf' H' sm m' => by
      show (if false = true then _ else Q false H')
      rw [if_neg Bool.false_ne_true]
      exact q Hf' H' sm m'⟩
theorem w_or {j k : Bool} {rest : List Expr} (h1 : TyT X a G M j) (h2 : j = false → TyW X (.BoolOp .Or (b :: rest) pos) G M k) : TyW X (.BoolOp .Or (a :: b :: rest) pos) G M (j || k) := by
  cases j with
  | false => exact PW.imp (pw_or h1 (h2 rfl)) fun t H Q ⟨Hf, o, m, q⟩ => ⟨Hf, o, m, fun Hf' H' sm m' => by
      show (if false = true then Q true H' else _)
      rw [if_neg Bool.false_ne_true]
      exact ⟨Hf', o.mono sm, m', fun H2f H2 s2 m2 => q H2f H2 (sm.trans s2) m2⟩⟩
  | true => exact PW.imp (pw_or (tB' := fun _ _ _ => False) h1 ⟨fun _ _ _ _ _ _ _ z => z.elim⟩) fun t H Q ⟨Hf, o, m, q⟩ => ⟨Hf, o, m, fun Hf' H' sm m' => by
      show (if true = true then Q true H' else _)
      rw [if_pos rfl]
      exact q Hf' H' sm m'⟩
theorem t_w {e : Expr} {k : Bool} (h : TyW X e G M k) : TyT X e G M k := PW.pt h
theorem t_eq {e : Expr} {j k : Bool} (h : TyT X e G M j) (e' : j = k) : TyT X e G M k := e' ▸ h
theorem e_if {k : Bool} (h : TyT X c G M k) (h1 : k = true → TyE X a G M P) (h2 : k = false → TyE X b G M P) : TyE X (.IfExp c a b pos) G M P := by
  cases k with
  | true => exact PE.imp (pe_ifExp (tb := fun _ _ _ => False) h (h1 rfl) ⟨fun _ _ _ _ _ _ z => z.elim⟩) fun t H Q ⟨Hf, o, m, q⟩ => ⟨Hf, o, m, fun Hf' H' sm m' => by
      show (if true = true then _ else _)
      rw [if_pos rfl]
      exact ⟨Hf', o.mono sm, m', fun v H2f H2 s2 m2 p => q v H2f H2 (sm.trans s2) m2 p⟩⟩
  | false => exact PE.imp (pe_ifExp (ta := fun _ _ _ => False) h ⟨fun _ _ _ _ _ _ z => z.elim⟩ (h2 rfl)) fun t H Q ⟨Hf, o, m, q⟩ => ⟨Hf, o, m, fun Hf' H' sm m' => by
      show (if false = true then _ else _)
      rw [if_neg Bool.false_ne_true]
      exact ⟨Hf', o.mono sm, m', fun v H2f H2 s2 m2 p => q v H2f H2 (sm.trans s2) m2 p⟩⟩
theorem e_is {e : Expr} {P P' : VP} (h : TyE X e G M P) (k : ∀ v H, P.p v H → P'.p v H) : TyE X e G M P' := PE.imp h fun t H Q ⟨Hf, o, m, q⟩ => ⟨Hf, o, m, fun v Hf' H' sm m' p => q v Hf' H' sm m' (k v Hf' p)⟩
theorem e_eq {e : Expr} {P P' : VP} (h : TyE X e G M P) (k : P = P') : TyE X e G M P' := k ▸ h
/-- and as a value -/
theorem e_one {op : BoolOp} (h : TyE X a G M P) : TyE X (.BoolOp op [a] pos) G M P := pe_one h
theorem e_and {j k : Bool} {rest : List Expr} (h1 : TyE X a G M (vB j)) (h2 : j = true → TyE X (.BoolOp .And (b :: rest) pos) G M (vB k)) : TyE X (.BoolOp .And (a :: b :: rest) pos) G M (vB (j && k)) := by
  cases j with
  | true => exact PE.imp (pe_and h1 (h2 rfl)) fun t H Q ⟨Hf, o, m, q⟩ => ⟨Hf, o, m, fun v Hf' H' sm m' (p : v = .bl true) => ⟨true, p, by
      show (if true = true then _ else _)
      rw [if_pos rfl]
      exact ⟨Hf', o.mono sm, m', fun v H2f H2 s2 m2 p => q v H2f H2 (sm.trans s2) m2 p⟩⟩⟩
  | false => exact PE.imp (pe_and (tb := fun _ _ _ => False) h1 ⟨fun _ _ _ _ _ _ z => z.elim⟩) fun t H Q ⟨Hf, o, m, q⟩ => ⟨Hf, o, m, fun v Hf' H' sm m' (p : v = .bl false) => ⟨false, p, by
      show (if false = true then _ else _)
      rw [if_neg Bool.false_ne_true]
      exact q _ Hf' H' sm m' rfl⟩⟩
/-! ### arguments -/
def rdA (G : Ctx) (M : MCtx) (Ps : List VP) : TA := fun t H Q => ∃ Hf, OkS G t Hf ∧ OkM M Hf H ∧ ∀ vs Hf' H', Same Hf Hf' → OkM M Hf' H' → Items Ps vs Hf' → Q vs H'
def TyA (X : Cx) (es : List Expr) (G : Ctx) (M : MCtx) (Ps : List VP) : Prop := PA X es (rdA G M Ps)
theorem a_nil : TyA X [] G M [] := PA.imp pa_nil fun t H Q ⟨Hf, o, m, k⟩ => k [] Hf H (Same.refl Hf) m trivial
theorem a_cons {e : Expr} {es : List Expr} {Ps : List VP} (h : TyE X e G M P) (hr : TyA X es G M Ps) (hs : starEach (e :: es) X.env = (false, eval e X.env) :: starEach es X.env := by rfl) : TyA X (e :: es) G M (P :: Ps) :=
  PA.imp (pa_cons h hr hs) fun t H Q ⟨Hf, o, m, k⟩ => ⟨Hf, o, m, fun v H1f H1 s1 m1 p => ⟨H1f, o.mono s1, m1, fun vs H2f H2 s2 m2 ps => k _ H2f H2 (s1.trans s2) m2 ⟨P.m _ _ _ s2 p, ps⟩⟩⟩
end
end K31
set_option Elab.async false
set_option linter.all false
set_option maxRecDepth 100000
set_option maxHeartbeats 1000000
/-! T2: fields, calls, sequences. -/
namespace K31
open PySem PySem.Spec L2
/-! ### fields -/
/-- an instance of the class at C with such fields -/
def vIn (C : Addr) (fs : List (Str × VP)) : VP := ⟨fun v H => ∃ a dx gs, v = .ref a ∧ H a = some (.ins C dx gs) ∧ FIt fs gs H, fun v H H' s ⟨a, dx, gs, e, h, f⟩ => ⟨a, dx, gs, e, s _ _ h, f.mono s⟩⟩
def vTu (Ps : List VP) : VP := ⟨fun v H => ∃ a xs, v = .ref a ∧ H a = some (.tup xs) ∧ Items Ps xs H, fun v H H' s ⟨a, xs, e, h, f⟩ => ⟨a, xs, e, s _ _ h, f.mono s⟩⟩
def vLs (Ps : List VP) : VP := ⟨fun v H => ∃ a xs, v = .ref a ∧ H a = some (.lst xs) ∧ Items Ps xs H, fun v H H' s ⟨a, xs, e, h, f⟩ => ⟨a, xs, e, s _ _ h, f.mono s⟩⟩
/-- a list or a tuple -/
def vSq (Ps : List VP) : VP := ⟨fun v H => (vTu Ps).p v H ∨ (vLs Ps).p v H, fun v H H' s h => h.elim (fun h => .inl ((vTu Ps).m _ _ _ s h)) fun h => .inr ((vLs Ps).m _ _ _ s h)⟩
/-- whatever -/
def vAny : VP := ⟨fun _ _ => True, fun _ _ _ _ _ => trivial⟩
section
variable {X : Cx} {G : Ctx} {M : MCtx} {P Pa Pb Pc : VP} {a b c e : Expr} {pos : Pos} {Ps Qs : List VP}
theorem FIt.lk {fs : List (Str × VP)} {gs : List (Str × V)} {H : Hp} {f : Str} {P : VP} (h : FIt fs gs H) (e : fs.lookup f = some P) : ∃ x, gs.lookup f = some x ∧ P.p x H := h.get e
theorem e_fld {C : Addr} {fs : List (Str × VP)} {f : Str} (h : TyE X e G M (vIn C fs)) (c : Cls X.K C) (n : NoAttr X.K C f) (hf : fs.lookup f = some P) (hb : attributeBase e f X.env (eval e X.env) = eval e X.env := by rfl) : TyE X (.Attribute e f pos) G M P :=
  PE.imp (pe_fld h hb) fun t H Q ⟨Hf, o, m, k⟩ => ⟨Hf, o, m, fun v Hf' H' s m' p => by
    obtain ⟨a, dx, gs, e1, e2, fi⟩ := p
    obtain ⟨x, hx, px⟩ := fi.get hf
    exact ⟨a, C, dx, gs, x, e1, m'.same _ _ e2, c, n, hx, k x Hf' H' s m' px⟩⟩

/-! ### calls -/
/-- a promise of a def that changes nothing: from such arguments such a value -/
def spV (Ps : List VP) (R : VP) : Sp := fun vs H Q _ => Items Ps vs H ∧ ∀ v H', Same H H' → R.p v H' → Q v H'
/-- of an __init__ -/
def spI (C : Addr) (Ps : List VP) (R : VP) : Sp := fun vs H Q _ => ∃ H0 x dx ws, vs = .ref x :: ws ∧ H = upd (upd H0 dx (.own x)) x (.ins C dx []) ∧ H0 x = none ∧ H0 dx = none ∧ dx ≠ x ∧ Items Ps ws H0 ∧ ∀ H', Same H0 H' → R.p (.ref x) H' → Q .non H'
structure CalT (P : Program) (w : World) (K : PySem.W.Frag) (mg : Str → Option Value) (base : Heap) (k : Nat) (x : Str) (Ps : List VP) (dvs : List V) (R : VP) : Prop where
  ex : ∃ (f : Addr) (fd : FuncData) (ps : List Str) (ds : List Value), FnOk P w K mg base CX0 k f fd ps (spV Ps R) ∧ mg x = some (.ref f) ∧ PySem.W.keepIn K (.ref f) = true ∧ Binds K fd ps ds ∧ Vals dvs ds
structure MetT (P : Program) (w : World) (K : PySem.W.Frag) (mg : Str → Option Value) (base : Heap) (k : Nat) (C : Addr) (m : Str) (Ps : List VP) (dvs : List V) (R : VP) : Prop where
  ex : ∃ (f : Addr) (fd : FuncData) (ps : List Str) (ds : List Value), Cls K C ∧ Meth K C m f ∧ FnOk P w K mg base CX0 k f fd ps (spV Ps R) ∧ Binds K fd ps ds ∧ Vals dvs ds
structure MakT (P : Program) (w : World) (K : PySem.W.Frag) (mg : Str → Option Value) (base : Heap) (k : Nat) (x : Str) (C : Addr) (Ps : List VP) (dvs : List V) (R : VP) : Prop where
  ex : ∃ (f : Addr) (fd : FuncData) (ps : List Str) (ds : List Value), Mk K C f ∧ FnOk P w K mg base CX0 k f fd ps (spI C Ps R) ∧ mg x = some (.ref C) ∧ Binds K fd ps ds ∧ Vals dvs ds
theorem items_dvs {Ps : List VP} {dvs : List V} {Ds : List VP} {vs : List V} {H : Hp} (h : Items Ps vs H) (d : ∀ H, Items Ds dvs H) : Items (Ps ++ Ds) (vs ++ dvs) H := h.append (d H)
variable {k j : Nat} {x m : Str} {C : Addr} {dvs : List V} {Ds : List VP} {R : VP} {p apos : Pos} {o : Expr} {es : List Expr}
theorem e_call0 {e : Expr} (c : CalT X.prog X.w X.K X.mg X.base k x (Ps ++ Ds) dvs R) (d : ∀ H, Items Ds dvs H) (hr : Room j X.A) (hk : k ≤ j) (hg : Gl X x) (ha : TyA X (e :: es) G [] Ps)
    (hdb : (x == ("__debug__" : Str)) = false := by decide) (he : starEach (e :: es) X.env = (false, eval e X.env) :: starEach es X.env := by rfl) (hpl : (backTo pos (starEach es X.env)).any (·.1) = false := by rfl) :
    TyE X (.Call (.Name x p) (e :: es) [] pos) G M R := by
  obtain ⟨f, fd, ps, ds, F, hm, kp, b, dv⟩ := c.ex
  refine TyE.frame (PE.imp (pe_call F (hr.mono hk) hg hm kp b dv pass0 ha hdb he hpl) fun t H Q ⟨Hf, ok, m, q⟩ => ⟨Hf, ok, m, fun vs Hf' H' s m' its => ?_⟩)
  have e := m'.nil
  subst e
  exact ⟨items_dvs its d, fun v H2 s2 r => q v H2 H2 (s.trans s2) (okm_nil _) r⟩
theorem e_callN (c : CalT X.prog X.w X.K X.mg X.base k x [] [] R) (hr : Room j X.A) (hk : k ≤ j) (hg : Gl X x) (hdb : (x == ("__debug__" : Str)) = false := by decide) : TyE X (.Call (.Name x p) [] [] pos) G M R := by
  obtain ⟨f, fd, ps, ds, F, hm, kp, b, dv⟩ := c.ex
  refine TyE.frame (PE.imp (pe_call0 F (hr.mono hk) hg hm kp b dv pass0 hdb) fun t H Q ⟨Hf, ok, m, q⟩ => ?_)
  have e := m.nil
  subst e
  exact ⟨trivial, fun v H2 s2 r => q v H2 H2 s2 (okm_nil _) r⟩
theorem e_call {e : Expr} (c : CalT X.prog X.w X.K X.mg X.base k x Ps [] R) (hr : Room j X.A) (hk : k ≤ j) (hg : Gl X x) (ha : TyA X (e :: es) G [] Ps)
    (hdb : (x == ("__debug__" : Str)) = false := by decide) (he : starEach (e :: es) X.env = (false, eval e X.env) :: starEach es X.env := by rfl) (hpl : (backTo pos (starEach es X.env)).any (·.1) = false := by rfl) :
    TyE X (.Call (.Name x p) (e :: es) [] pos) G M R := e_call0 (Ds := []) (dvs := []) (by rw [List.append_nil]; exact c) (fun _ => trivial) hr hk hg ha hdb he hpl
theorem e_mk0 {e : Expr} (c : MakT X.prog X.w X.K X.mg X.base k x C (Ps ++ Ds) dvs R) (d : ∀ H, Items Ds dvs H) (hr : Room j X.A) (hk : k + 1 ≤ j) (hg : Gl X x) (ha : TyA X (e :: es) G [] Ps)
    (hdb : (x == ("__debug__" : Str)) = false := by decide) (he : starEach (e :: es) X.env = (false, eval e X.env) :: starEach es X.env := by rfl) (hpl : (backTo pos (starEach es X.env)).any (·.1) = false := by rfl) :
    TyE X (.Call (.Name x p) (e :: es) [] pos) G M R := by
  obtain ⟨f, fd, ps, ds, Mk, F, hm, b, dv⟩ := c.ex
  refine TyE.frame (PE.imp (pe_make Mk F (hr.mono hk) hg hm b dv pass0 ha hdb he hpl) fun t H Q ⟨Hf, ok, m, q⟩ => ⟨Hf, ok, m, fun vs Hf' H' s m' its => ?_⟩)
  have e := m'.nil
  subst e
  intro y dx hy hdx hne
  exact ⟨_, y, dx, vs ++ dvs, rfl, rfl, hy, hdx, hne, items_dvs its d, fun H2 s2 r => ⟨rfl, q _ H2 H2 (s.trans s2) (okm_nil _) r⟩⟩
theorem e_mk {e : Expr} (c : MakT X.prog X.w X.K X.mg X.base k x C Ps [] R) (hr : Room j X.A) (hk : k + 1 ≤ j) (hg : Gl X x) (ha : TyA X (e :: es) G [] Ps)
    (hdb : (x == ("__debug__" : Str)) = false := by decide) (he : starEach (e :: es) X.env = (false, eval e X.env) :: starEach es X.env := by rfl) (hpl : (backTo pos (starEach es X.env)).any (·.1) = false := by rfl) :
    TyE X (.Call (.Name x p) (e :: es) [] pos) G M R := e_mk0 (Ds := []) (dvs := []) (by rw [List.append_nil]; exact c) (fun _ => trivial) hr hk hg ha hdb he hpl
theorem keys_FIt : ∀ {fs : List (Str × VP)} {gs : List (Str × V)} {H : Hp}, FIt fs gs H → gs.map (·.1) = fs.map (·.1)
  | [], [], _, _ => rfl
  | (f, P) :: fs, (g, y) :: gs, H, h => by
    rw [List.map_cons, List.map_cons, keys_FIt h.2.2]
    have : f = g := h.1
    rw [this]
  | [], _ :: _, _, h => h.elim
  | _ :: _, [], _, h => h.elim
theorem lookup_keys {m : Str} : ∀ {gs : List (Str × V)}, (gs.map (·.1)).contains m = false → gs.lookup m = none
  | [], _ => rfl
  | (g, y) :: gs, h => by
    rw [List.map_cons, List.contains_cons, Bool.or_eq_false_iff] at h
    rw [List.lookup_cons, h.1]
    exact lookup_keys h.2
theorem e_mth {fs : List (Str × VP)} {ks : List Str} {pl : Sem Bool} {e : Expr} (c : MetT X.prog X.w X.K X.mg X.base k C m (vIn C fs :: Ps) [] R) (hks : fs.map (·.1) = ks) (hm : ks.contains m = false) (hr : Room j X.A) (hk : k ≤ j) (ho : TyE X o G [] (vIn C fs)) (ha : TyA X (e :: es) G [] Ps)
    (hst : starEach (e :: es) X.env = (false, eval e X.env) :: starEach es X.env := by rfl) (hpl : (backTo pos (starEach es X.env)).any (·.1) = false := by rfl)
    (ht : eval (.Call (.Attribute o m apos) (e :: es) [] pos) X.env = (do
      let ov ← eval o X.env
      standAt apos.atName
      let (f, first) ← holding [ov] (getMethod ov m pl)
      callWith pos f first (backTo pos (starEach (e :: es) X.env)) (backToKw pos (keywordEach [] X.env))) := by rfl) :
    TyE X (.Call (.Attribute o m apos) (e :: es) [] pos) G M R := by
  obtain ⟨f, fd, ps, ds, hc, hmt, F, b, dv⟩ := c.ex
  refine TyE.frame (PE.imp (pe_meth (pl := pl) ho hc hmt F (hr.mono hk) b dv pass0 ha hst hpl ht) fun t H Q ⟨Hf, ok, mm, q⟩ => ⟨Hf, ok, mm, fun v Hf' H' s m' pv => ?_⟩)
  have e := m'.nil
  subst e
  have pv' := pv
  obtain ⟨y, dx, gs, rfl, hy, fi⟩ := pv
  refine ⟨y, dx, gs, rfl, hy, lookup_keys (by rw [keys_FIt fi, hks]; exact hm), _, ok.mono s, okm_nil _, fun vs Hf2 H2 s2 m2 its => ?_⟩
  have e := m2.nil
  subst e
  refine ⟨⟨(vIn C fs).m _ _ _ s2 pv', ?_⟩, fun v H3 s3 r => q v H3 H3 ((s.trans s2).trans s3) (okm_nil _) r⟩
  rw [List.append_nil]; exact its
theorem e_mth0 {fs : List (Str × VP)} {ks : List Str} {pl : Sem Bool} (c : MetT X.prog X.w X.K X.mg X.base k C m [vIn C fs] [] R) (hks : fs.map (·.1) = ks) (hm : ks.contains m = false) (hr : Room j X.A) (hk : k ≤ j) (ho : TyE X o G [] (vIn C fs))
    (ht : eval (.Call (.Attribute o m apos) [] [] pos) X.env = (do
      let ov ← eval o X.env
      standAt apos.atName
      let (f, first) ← holding [ov] (getMethod ov m pl)
      callWith pos f first (backTo pos (starEach [] X.env)) (backToKw pos (keywordEach [] X.env))) := by rfl) :
    TyE X (.Call (.Attribute o m apos) [] [] pos) G M R := by
  obtain ⟨f, fd, ps, ds, hc, hmt, F, b, dv⟩ := c.ex
  refine TyE.frame (PE.imp (pe_meth0 (pl := pl) ho hc hmt F (hr.mono hk) b dv pass0 ht) fun t H Q ⟨Hf, ok, mm, q⟩ => ⟨Hf, ok, mm, fun v Hf' H' s m' pv => ?_⟩)
  have e := m'.nil
  subst e
  have pv' := pv
  obtain ⟨y, dx, gs, rfl, hy, fi⟩ := pv
  exact ⟨y, dx, gs, rfl, hy, lookup_keys (by rw [keys_FIt fi, hks]; exact hm), ⟨pv', trivial⟩, fun v H3 s3 r => q v H3 H3 (s.trans s3) (okm_nil _) r⟩
/-! ### operators of own classes -/
theorem inst_of {pins : List (Addr × Obj)} {t : L2.St} {H : Hp} {s : Shared} {a C dx : Addr} {fs : List (Str × V)} (I : Inv X pins t H s) (h : H a = some (.ins C dx fs)) : ∃ od, PySem.W.InstAt s.heap a (PySem.W.instObj C dx) C (some od) := by
  obtain ⟨mA, J, _⟩ := ins_get I.hok h
  obtain ⟨od, J, _⟩ := J.look
  exact ⟨od, J⟩
theorem back_ok {v : V} {u : Value} (r : RelV v u) : u ≠ .notImplemented := by
  cases v with
  | int _ => obtain ⟨t, rfl⟩ := r; intro h; cases h
  | str _ => obtain ⟨t, rfl⟩ := r; intro h; cases h
  | byt _ => obtain ⟨t, rfl⟩ := r; intro h; cases h
  | flt _ => obtain ⟨t, rfl⟩ := r; intro h; cases h
  | non => cases r; intro h; cases h
  | bl _ => cases r; intro h; cases h
  | ref _ => cases r; intro h; cases h
  | ty _ => cases r; intro h; cases h
theorem cmpBack_of {Q : Value → Shared → Prop} {u : Value} {s : Shared} (h : u ≠ .notImplemented) (q : Q u s) : PySem.W.CmpBack Q u s := by
  cases u <;> first | exact absurd rfl h | exact q
theorem o_own {op : Operator} {fa fb : List (Str × VP)} (c : MetT X.prog X.w X.K X.mg X.base k C (PySem.dunder op.info.2) [vIn C fa, vIn C fb] [] R) (hc : PySem.W.selfFirst X.K C = true) (hr : Room j X.A) (hk : k ≤ j) : OpT X (binaryOp op) (vIn C fa) (vIn C fb) R := by
  obtain ⟨f, fd, ps, ds, hcl, hmt, F, b, dv⟩ := c.ex
  intro pins s t H x y v u Q I rx ry w
  obtain ⟨px, py, q⟩ := w
  have px' := px
  have py' := py
  obtain ⟨ax, dx, gx, rfl, hx, fx⟩ := px
  obtain ⟨ay, dy, gy, rfl, hy, fy⟩ := py
  cases rx
  cases ry
  obtain ⟨odx, J⟩ := inst_of I hx
  obtain ⟨ody, J'⟩ := inst_of I hy
  obtain ⟨m, hF⟩ := I.fr
  refine PySem.W.binop_K hF I.ok.mod.kin J J'.type hc hmt.at_ hmt.fn ?_
  have e : ds = [] := by cases dv; rfl
  subst e
  refine thn (run_fn F (hr.mono hk) b dv pass0 I (vs := [.ref ax, .ref ay]) (Q := Q) (.cons rfl (.cons rfl .nil)) ⟨⟨px', py', trivial⟩, q⟩) fun z s' h => ?_
  obtain ⟨v, H', I', r, qq⟩ := h
  exact cmpBack_of (back_ok r) ⟨v, H', I', r, qq⟩
theorem o_ownEq {fa fb : List (Str × VP)} (c : MetT X.prog X.w X.K X.mg X.base k C "__eq__" [vIn C fa, vIn C fb] [] R) (hr : Room j X.A) (hk : k ≤ j) : OpT X (compareOp .Eq) (vIn C fa) (vIn C fb) R := by
  obtain ⟨f, fd, ps, ds, hcl, hmt, F, b, dv⟩ := c.ex
  intro pins s t H x y v u Q I rx ry w
  obtain ⟨px, py, q⟩ := w
  have px' := px
  have py' := py
  obtain ⟨ax, dx, gx, rfl, hx, fx⟩ := px
  obtain ⟨ay, dy, gy, rfl, hy, fy⟩ := py
  cases rx
  cases ry
  obtain ⟨odx, J⟩ := inst_of I hx
  obtain ⟨ody, J'⟩ := inst_of I hy
  obtain ⟨m, hF⟩ := I.fr
  show wpAny (model X.prog X.w) X.A (richCompare .Eq (.ref ax) (.ref ay)) (EP X pins t Q) X.xe s
  refine PySem.W.cmp_K (op := .Eq) (tb := .ref C) hr.units0 hF I.ok.mod.kin J J'.type (by simp [PySem.W.notFirst]) hmt.at_ hmt.fn ?_
  have e : ds = [] := by cases dv; rfl
  subst e
  refine thn (run_fn F (hr.mono hk) b dv pass0 I (vs := [.ref ax, .ref ay]) (Q := Q) (.cons rfl (.cons rfl .nil)) ⟨⟨px', py', trivial⟩, q⟩) fun z s' h => ?_
  obtain ⟨v, H', I', r, qq⟩ := h
  exact cmpBack_of (back_ok r) ⟨v, H', I', r, qq⟩
theorem u_own {fa : List (Str × VP)} (c : MetT X.prog X.w X.K X.mg X.base k C "__neg__" [vIn C fa] [] R) (hr : Room j X.A) (hk : k ≤ j) : UnT X (unaryOp .USub) (vIn C fa) R := by
  obtain ⟨f, fd, ps, ds, hcl, hmt, F, b, dv⟩ := c.ex
  intro pins s t H x v Q I rx w
  obtain ⟨px, q⟩ := w
  have px' := px
  obtain ⟨ax, dx, gx, rfl, hx, fx⟩ := px
  cases rx
  obtain ⟨odx, J⟩ := inst_of I hx
  obtain ⟨m, hF⟩ := I.fr
  refine PySem.W.ksp_neg hF I.ok.mod.kin J hmt.at_ hmt.fn ?_
  have e : ds = [] := by cases dv; rfl
  subst e
  exact run_fn F (hr.mono hk) b dv pass0 I (vs := [.ref ax]) (Q := Q) (.cons rfl .nil) ⟨⟨px', trivial⟩, q⟩
/-! ### built-ins by their names -/
def CbT (X : Cx) (f : Value) (Ps : List VP) (R : VP) : Prop := CallR X f (fun vs H Q => Items Ps vs H ∧ ∀ v H', Same H H' → R.p v H' → Q v H')
def rdCM (M : MCtx) (Ps : List VP) (R : VP) : List V → Hp → VK → Prop := fun vs H Q => ∃ Hf, OkM M Hf H ∧ Items Ps vs Hf ∧ ∀ v Hf' H', Same Hf Hf' → OkM M Hf' H' → R.p v Hf' → Q v H'
theorem CbT.frame {f : Value} (h : CbT X f Ps R) : CallR X f (rdCM M Ps R) := by
  intro pins s t H vs us Q I r w
  obtain ⟨Hf, m, its, k⟩ := w
  obtain ⟨ps, I1, back⟩ := frameM I m
  refine thn (h (pins ++ ps) s t Hf vs us (fun v Hf' => Same Hf Hf' ∧ R.p v Hf') I1 r ⟨its, fun v H' sm p => ⟨sm, p⟩⟩) fun z s' ⟨v', Hf', I2, rr, sm, p⟩ => ?_
  obtain ⟨H', m', I3⟩ := back _ _ _ sm I2
  exact ⟨v', H', I3, rr, k v' Hf' H' sm m' p⟩
theorem e_blt {id : String} {e : Expr} (hc : CbT X (.builtin id) Ps R) (hg : Gl X x) (hm : X.mg x = none) (hv : bootBuiltins x = some (.builtin id)) (ha : TyA X (e :: es) G M Ps) (hn : x ≠ "__name__" := by decide) (hdb : (x == ("__debug__" : Str)) = false := by decide)
    (he : starEach (e :: es) X.env = (false, eval e X.env) :: starEach es X.env := by rfl) (hpl : (backTo pos (starEach es X.env)).any (·.1) = false := by rfl) : TyE X (.Call (.Name x p) (e :: es) [] pos) G M R :=
  PE.imp (pe_callB hc.frame hg hm hv ha hn hdb he hpl) fun t H Q ⟨Hf, o, m, k⟩ => ⟨Hf, o, m, fun vs H1f H1 s1 m1 its => ⟨H1f, m1, its, fun v Hf' H' sm m' p => k v Hf' H' (s1.trans sm) m' p⟩⟩
theorem e_bty {T : String} {e : Expr} (hc : CbT X (.type T) Ps R) (hg : Gl X x) (hm : X.mg x = none) (hv : bootBuiltins x = some (.type T)) (ha : TyA X (e :: es) G M Ps) (hn : x ≠ "__name__" := by decide) (hdb : (x == ("__debug__" : Str)) = false := by decide)
    (he : starEach (e :: es) X.env = (false, eval e X.env) :: starEach es X.env := by rfl) (hpl : (backTo pos (starEach es X.env)).any (·.1) = false := by rfl) : TyE X (.Call (.Name x p) (e :: es) [] pos) G M R :=
  PE.imp (pe_callTy hc.frame hg hm hv ha hn hdb he hpl) fun t H Q ⟨Hf, o, m, k⟩ => ⟨Hf, o, m, fun vs H1f H1 s1 m1 its => ⟨H1f, m1, its, fun v Hf' H' sm m' p => k v Hf' H' (s1.trans sm) m' p⟩⟩
/-- a module's name for a built-in function (gcd, lcm) -/
theorem e_bfun {id : String} {e : Expr} (hc : CbT X (.builtin id) Ps R) (hg : Gl X x) (hm : X.mg x = some (.builtin id)) (ha : TyA X (e :: es) G M Ps) (hdb : (x == ("__debug__" : Str)) = false := by decide)
    (he : starEach (e :: es) X.env = (false, eval e X.env) :: starEach es X.env := by rfl) (hpl : (backTo pos (starEach es X.env)).any (·.1) = false := by rfl) : TyE X (.Call (.Name x p) (e :: es) [] pos) G M R :=
  PE.imp (pe_callBfun hc.frame hg hm ha hdb he hpl) fun t H Q ⟨Hf, o, m, k⟩ => ⟨Hf, o, m, fun vs H1f H1 s1 m1 its => ⟨H1f, m1, its, fun v Hf' H' sm m' p => k v Hf' H' (s1.trans sm) m' p⟩⟩
theorem cbT_of {f : Value} {r : List V → Hp → VK → Prop} (h : CallR X f r) (k : ∀ vs H, Items Ps vs H → ∀ Q : VK, (∀ v H', Same H H' → R.p v H' → Q v H') → r vs H Q) : CbT X f Ps R :=
  fun pins s t H vs us Q I rr w => h pins s t H vs us Q I rr (k vs H w.1 Q w.2)
theorem it1 {P : VP} {vs : List V} {H : Hp} (h : Items [P] vs H) : ∃ x, vs = [x] ∧ P.p x H := by
  match vs, h with
  | [x], h => exact ⟨x, rfl, h.1⟩
theorem it2 {P Q : VP} {vs : List V} {H : Hp} (h : Items [P, Q] vs H) : ∃ x y, vs = [x, y] ∧ P.p x H ∧ Q.p y H := by
  match vs, h with
  | [x, y], h => exact ⟨x, y, rfl, h.1, h.2.1⟩
theorem c_gcd {i l : Int} : CbT X (.builtin "math.gcd") [vI i, vI l] (vI ((Nat.gcd i.natAbs l.natAbs : Nat) : Int)) := cbT_of cr_gcd fun vs H h Q q => by
  obtain ⟨x, y, rfl, e1, e2⟩ := it2 h
  exact ⟨i, l, by rw [e1, e2], q _ H (Same.refl H) rfl⟩
theorem c_max {i l : Int} (hc : X.calm = true) : CbT X (.builtin "max") [vI i, vI l] (vI (if l > i then l else i)) := cbT_of (call_max2 hc) fun vs H h Q q => by
  obtain ⟨x, y, rfl, e1, e2⟩ := it2 h
  exact ⟨i, l, by rw [e1, e2], q _ H (Same.refl H) rfl⟩
theorem c_abs {i : Int} : CbT X (.builtin "abs") [vI i] (vI (if i < 0 then -i else i)) := cbT_of call_abs fun vs H h Q q => by
  obtain ⟨x, rfl, e1⟩ := it1 h
  exact ⟨i, by rw [e1], q _ H (Same.refl H) rfl⟩
theorem c_int {i : Int} : CbT X (.type "int") [vI i] (vI i) := cbT_of call_int1 fun vs H h Q q => by
  obtain ⟨x, rfl, e1⟩ := it1 h
  exact .inl ⟨i, by rw [e1], q _ H (Same.refl H) rfl⟩
theorem c_len {K : PySem.W.Frag} (hK : X.K = K) : CbT X (.builtin "len") [vSq Ps] (vI (Ps.length : Nat)) := cbT_of call_len_seq fun vs H h Q q => by
  obtain ⟨x, rfl, e1⟩ := it1 h
  rcases e1 with ⟨a, xs, rfl, hx, its⟩ | ⟨a, xs, rfl, hx, its⟩
  · exact ⟨a, xs, rfl, .inr (SqT.of hx), by rw [its.len]; exact q _ H (Same.refl H) rfl⟩
  · exact ⟨a, xs, rfl, .inl (SqL.of hx), by rw [its.len]; exact q _ H (Same.refl H) rfl⟩
theorem c_tuple : CbT X (.type "tuple") [vSq Ps] (vTu Ps) := cbT_of call_tuple_of fun vs H h Q q => by
  obtain ⟨x, rfl, e1⟩ := it1 h
  rcases e1 with ⟨a, xs, rfl, hx, its⟩ | ⟨a, xs, rfl, hx, its⟩
  · exact ⟨a, xs, rfl, .inr ⟨SqT.of hx, q _ H (Same.refl H) ⟨a, xs, rfl, hx, its⟩⟩⟩
  · exact ⟨a, xs, rfl, .inl ⟨SqL.of hx, fun l hl => q _ _ (same_upd hl) ⟨l, xs, rfl, upd_same, its.mono (same_upd hl)⟩⟩⟩
theorem c_list : CbT X (.type "list") [vSq Ps] (vLs Ps) := cbT_of call_list_of fun vs H h Q q => by
  obtain ⟨x, rfl, e1⟩ := it1 h
  rcases e1 with ⟨a, xs, rfl, hx, its⟩ | ⟨a, xs, rfl, hx, its⟩
  · exact ⟨a, xs, rfl, .inr (SqT.of hx), fun l hl => q _ _ (same_upd hl) ⟨l, xs, rfl, upd_same, its.mono (same_upd hl)⟩⟩
  · exact ⟨a, xs, rfl, .inl (SqL.of hx), fun l hl => q _ _ (same_upd hl) ⟨l, xs, rfl, upd_same, its.mono (same_upd hl)⟩⟩
theorem vSq_l {v : V} {H : Hp} (h : (vLs Ps).p v H) : (vSq Ps).p v H := .inr h
theorem vSq_t {v : V} {H : Hp} (h : (vTu Ps).p v H) : (vSq Ps).p v H := .inl h
theorem e_sqL (h : TyE X e G M (vLs Ps)) : TyE X e G M (vSq Ps) := e_is h fun _ _ => vSq_l
theorem e_sqT (h : TyE X e G M (vTu Ps)) : TyE X e G M (vSq Ps) := e_is h fun _ _ => vSq_t
/-! ### items, slices, displays -/
theorem ixT_or : IxR X (fun x y H Q => rIxL X.K x y H Q ∨ rIxT X.K x y H Q) := ix_list.or ix_tup
theorem e_ix {i : Nat} (ha : TyE X a G M (vSq Ps)) (hb : TyE X b G M (vI (i : Int))) (hi : Ps[i]? = some P) (hs : PlainIx b := by exact fun _ _ => rfl) : TyE X (.Subscript a b pos) G M P :=
  PE.imp (pe_ix ixT_or ha hb hs) fun t H Q h => rd_two h fun x y Hf H m pa (pb : y = .int i) Q k => by
    rcases pa with ⟨a, xs, rfl, hx, its⟩ | ⟨a, xs, rfl, hx, its⟩
    · obtain ⟨v, hv, pv⟩ := its.get hi
      exact .inr ⟨a, xs, i, v, rfl, pb, SqT.of (m.same _ _ hx), atI_nat hv, k v Hf H (Same.refl Hf) m pv⟩
    · obtain ⟨v, hv, pv⟩ := its.get hi
      exact .inl ⟨a, xs, i, v, rfl, pb, SqL.of (m.same _ _ hx), atI_nat hv, k v Hf H (Same.refl Hf) m pv⟩
theorem OkM.new {Hf H : Hp} {T : Addr} {o : HO} (h : OkM M Hf H) (hT : H T = none) : OkM M (upd Hf T o) (upd H T o) := by
  obtain ⟨L, rfl, f, mi⟩ := h
  have key : ∀ {L : List ME}, FrL L Hf → lay L Hf T = none → lay L (upd Hf T o) = upd (lay L Hf) T o ∧ FrL L (upd Hf T o) := by
    intro L
    induction L with
    | nil => intro _ _; exact ⟨rfl, trivial⟩
    | cons e L ih =>
      intro f hT
      have comm : ∀ {H : Hp} {a : Addr} {u : HO}, a ≠ T → upd (upd H T o) a u = upd (upd H a u) T o := fun {H a u} hne => by
        funext z
        by_cases h1 : z = a
        · subst h1; rw [upd_same, upd_ne hne, upd_same]
        · by_cases h2 : z = T
          · subst h2; rw [upd_ne h1, upd_same, upd_same]
          · rw [upd_ne h1, upd_ne h2, upd_ne h2, upd_ne h1]
      cases e with
      | l a xs =>
        have hne : a ≠ T := fun q => by
          have hT : upd (lay L Hf) a (.lst xs) T = none := hT
          rw [q, upd_same] at hT; cases hT
        have hT' : lay L Hf T = none := by
          have hT : upd (lay L Hf) a (.lst xs) T = none := hT
          rw [upd_ne hne.symm] at hT; exact hT
        obtain ⟨e1, e2⟩ := ih f.2 hT'
        refine ⟨?_, ?_, e2⟩
        · show upd (lay L (upd Hf T o)) a _ = upd (upd (lay L Hf) a _) T o
          rw [e1, comm hne]
        · show lay L (upd Hf T o) a = none
          rw [e1, upd_ne hne]; exact f.1
      | i x dx C fs =>
        have hT : upd (upd (lay L Hf) dx (.own x)) x (.ins C dx fs) T = none := hT
        have hne : x ≠ T := fun q => by rw [q, upd_same] at hT; cases hT
        have hne2 : dx ≠ T := fun q => by rw [upd_ne hne.symm, q, upd_same] at hT; cases hT
        have hT' : lay L Hf T = none := by rw [upd_ne hne.symm, upd_ne hne2.symm] at hT; exact hT
        obtain ⟨e1, e2⟩ := ih f.2 hT'
        refine ⟨?_, ?_, e2⟩
        · show upd (upd (lay L (upd Hf T o)) dx _) x _ = upd (upd (upd (lay L Hf) dx _) x _) T o
          rw [e1, comm hne2, comm hne]
        · show lay L (upd Hf T o) x = none ∧ lay L (upd Hf T o) dx = none ∧ dx ≠ x
          rw [e1, upd_ne hne, upd_ne hne2]; exact f.1
  have hTL : Hf T = none := by
    cases q : Hf T with
    | none => rfl
    | some u =>
      have := same_lay f _ _ q
      rw [hT] at this; cases this
  obtain ⟨e1, e2⟩ := key f hT
  exact ⟨L, e1.symm, e2, mi.mono (same_upd hTL)⟩
theorem OkM.free {Hf H : Hp} {T : Addr} (h : OkM M Hf H) (hT : H T = none) : Hf T = none := by
  cases q : Hf T with
  | none => rfl
  | some u =>
    have := h.same _ _ q
    rw [hT] at this; cases this
theorem e_tup (h : TyA X es G M Ps) (hl : Ps.length ≤ 100 := by decide) {x1 : Nat} : TyE X (.Tuple es x1 pos) G M (vTu Ps) :=
  PE.imp (pe_tup h) fun t H Q ⟨Hf, o, m, k⟩ => ⟨Hf, o, m, fun vs H1f H1 s1 m1 its => ⟨by rw [its.len]; exact Nat.le_trans hl (by decide), fun q hq =>
    k _ (upd H1f q (.tup vs)) _ (s1.trans (same_upd (m1.free hq))) (m1.new hq) ⟨q, vs, rfl, upd_same, its.mono (same_upd (m1.free hq))⟩⟩⟩
theorem e_lst (h : TyA X es G M Ps) (hl : Ps.length ≤ 100 := by decide) : TyE X (.List es pos) G M (vLs Ps) :=
  PE.imp (pe_lst h) fun t H Q ⟨Hf, o, m, k⟩ => ⟨Hf, o, m, fun vs H1f H1 s1 m1 its => ⟨by rw [its.len]; exact Nat.le_trans hl (by decide), fun q hq =>
    k _ (upd H1f q (.lst vs)) _ (s1.trans (same_upd (m1.free hq))) (m1.new hq) ⟨q, vs, rfl, upd_same, its.mono (same_upd (m1.free hq))⟩⟩⟩
/-! a list that is being changed, read -/
theorem OkM.at_ : ∀ {M : MCtx} {k : Nat} {a : Addr} {Ps : List VP} {Hf H : Hp}, OkM M Hf H → M[k]? = some (.l a Ps) → ∃ xs, H a = some (.lst xs) ∧ Items Ps xs Hf := by
  intro M k a Ps Hf H h
  obtain ⟨L, rfl, f, mi⟩ := h
  revert M k
  induction L with
  | nil => intro M k mi e; cases M with
    | nil => simp at e
    | cons _ _ => exact mi.elim
  | cons e L ih =>
    intro M k mi hk
    cases M with
    | nil => exact mi.elim
    | cons m M =>
      cases k with
      | zero =>
        have : m = .l a Ps := by simpa using hk
        subst this
        cases e with
        | l b xs =>
          obtain ⟨rfl, its⟩ := mi.1
          exact ⟨xs, upd_same, its⟩
        | i x dx C fs => exact mi.1.elim
      | succ k =>
        obtain ⟨xs, hx, its⟩ := ih f.2 mi.2 (by simpa using hk)
        exact ⟨xs, same_lay1 f.1 _ _ hx, its⟩
theorem e_ixM (l : Nat) {i : Nat} {ad : Addr} (hM : M[l]? = some (.l ad Ps)) (ha : TyE X a G M (vAt ad)) (hb : TyE X b G M (vI (i : Int))) (hi : Ps[i]? = some P) (hs : PlainIx b := by exact fun _ _ => rfl) : TyE X (.Subscript a b pos) G M P :=
  PE.imp (pe_ix ix_list ha hb hs) fun t H Q h => rd_two h fun x y Hf H m (pa : x = .ref ad) (pb : y = .int i) Q k => by
    obtain ⟨xs, hx, its⟩ := m.at_ hM
    obtain ⟨v, hv, pv⟩ := its.get hi
    exact ⟨ad, xs, i, v, pa, pb, SqL.of hx, atI_nat hv, k v Hf H (Same.refl Hf) m pv⟩
theorem e_lenM (l : Nat) {ad : Addr} (hM : M[l]? = some (.l ad Ps)) (hg : Gl X "len") (hm : X.mg "len" = none) (ha : TyE X a G M (vAt ad)) (hs : starEach [a] X.env = (false, eval a X.env) :: starEach [] X.env := by rfl) : TyE X (.Call (.Name "len" p) [a] [] pos) G M (vI (Ps.length : Nat)) :=
  PE.imp (pe_callB call_len_seq hg hm PySem.boot_len (a_cons ha a_nil hs) (by decide) (by decide) hs rfl) fun t H Q ⟨Hf, o, m, k⟩ => ⟨Hf, o, m, fun vs H1f H1 s1 m1 its => by
    obtain ⟨x, rfl, e1⟩ := it1 its
    obtain ⟨xs, hx, its⟩ := m1.at_ hM
    exact ⟨ad, xs, by rw [e1], .inl (SqL.of hx), by rw [its.len]; exact k _ H1f H1 s1 m1 rfl⟩⟩
end
end K31
set_option Elab.async false
set_option linter.all false
set_option maxRecDepth 100000
set_option maxHeartbeats 1000000
/-! T3: statements, loops, comprehensions. -/
namespace K31
open PySem PySem.Spec L2
section
variable {X : Cx} {G : Ctx} {M : MCtx} {P Pa Pb Pc : VP} {a b c e : Expr} {pos : Pos} {Ps Qs : List VP} {H0 : Hp} {D : Ends} {rest sts body : List Stmt} {st : Stmt}
def Go (X : Cx) (sts : List Stmt) (D : Ends) (t : L2.St) (H : Hp) : Prop := ∀ (pins : List (Addr × Obj)) (s : Shared), Inv X pins t H s → wpAny (model X.prog X.w) X.A (execs sts X.env) (SP X pins D) X.xe s
theorem go_pss : PSs X sts (fun D t H => Go X sts D t H) := ⟨fun pins s t H D I h => h pins s I⟩
def SOk (X : Cx) (sts : List Stmt) (H0 : Hp) (G : Ctx) (M : MCtx) (D : Ends) : Prop := ∀ (t : L2.St) (Hf H : Hp), Same H0 Hf → OkS G t Hf → OkM M Hf H → Go X sts D t H
theorem SOk.of {ts : TS} (h : PSs X sts ts) (k : ∀ (t : L2.St) (Hf H : Hp), Same H0 Hf → OkS G t Hf → OkM M Hf H → ts D t H) : SOk X sts H0 G M D :=
  fun t Hf H s o m pins sh I => h.run pins sh t H D I (k t Hf H s o m)
theorem s_cons {ts : TS} (h : PS X st ts) (k : ∀ (t : L2.St) (Hf H : Hp), Same H0 Hf → OkS G t Hf → OkM M Hf H → ts { D with nx := Go X rest D } t H) : SOk X (st :: rest) H0 G M D :=
  SOk.of (pss_cons h go_pss) k
theorem s_last {ts : TS} (h : PS X st ts) (k : ∀ (t : L2.St) (Hf H : Hp), Same H0 Hf → OkS G t Hf → OkM M Hf H → ts { D with nx := fun _ _ => False } t H) : SOk X (st :: rest) H0 G M D :=
  SOk.of (pss_cons h pss_never) fun t Hf H s o m => k t Hf H s o m
theorem SOk.weak {G' : Ctx} (h : SOk X sts H0 G M D) (s : SubC G G') : SOk X sts H0 G' M D := fun t Hf H s0 o m => h t Hf H s0 (o.sub s) m
theorem SOk.base {H1 : Hp} (h : SOk X sts H0 G M D) (s : Same H0 H1) : SOk X sts H1 G M D := fun t Hf H s0 o m => h t Hf H (s.trans s0) o m
theorem s_ret (he : TyE X e G M P) (k : ∀ v Hf H, Same H0 Hf → OkM M Hf H → P.p v Hf → D.rt v H) : SOk X (.Return (some e) pos :: rest) H0 G M D :=
  s_last (ps_ret he) fun t Hf H s o m => ⟨Hf, o, m, fun v Hf' H' s' m' p => k v Hf' H' (s.trans s') m' p⟩
/-- the usual return: what the caller wants -/
theorem s_retV {R : VP} {Q : VK} (he : TyE X e G M R) (hD : D.rt = Q) (k : ∀ v H', Same H0 H' → R.p v H' → Q v H') : SOk X (.Return (some e) pos :: rest) H0 G M D :=
  s_ret he fun v Hf H s m p => by rw [hD]; exact k v H (s.trans m.same) (R.m _ _ _ m.same p)
theorem s_retN (k : ∀ Hf H, Same H0 Hf → OkM M Hf H → D.rt .non H) : SOk X (.Return none pos :: rest) H0 G M D :=
  s_last ps_retN fun t Hf H s o m => k Hf H s m
theorem s_nil (k : ∀ (t : L2.St) (Hf H : Hp), Same H0 Hf → OkS G t Hf → OkM M Hf H → D.nx t H) : SOk X [] H0 G M D := SOk.of pss_nil k
theorem s_end (h : SOk X rest H0 G M D) {D' : Ends} (hD : D'.nx = Go X rest D) : SOk X [] H0 G M D' := s_nil fun t Hf H s o m => by rw [hD]; exact h t Hf H s o m
theorem s_cont (k : ∀ (t : L2.St) (Hf H : Hp), Same H0 Hf → OkS G t Hf → OkM M Hf H → D.ct t H) : SOk X (.Continue pos :: rest) H0 G M D := s_last ps_continue k
theorem s_asg (i : Nat) {x : Str} {p' : Pos} (he : TyE X e G M P) (h : SOk X rest H0 (G.set i (some P)) M D) (hN : X.N.Nodup) (hi : X.N[i]? = some x := by rfl) (hx : Loc X.env.scope x := by first | exact Or.inl rfl | exact Or.inr rfl)
    (hs : swapsWith e (some (.Name x p')) pos.line X.env = pure false := by rfl) (hf : X.fn x = true ∨ X.env.scope.names.lookup x = some .local := by first | exact .inl rfl | exact .inr rfl) : SOk X (.Assign [.Name x p'] e pos :: rest) H0 G M D :=
  s_cons (ps_set hN hi hx he hs hf) fun t Hf H s o m => ⟨Hf, o, m, fun v Hf' H' s' m' p => h _ Hf' H' (s.trans s') ((o.mono s').set p) m'⟩
theorem s_expr (he : TyE X e G M P) (h : SOk X rest H0 G M D) (hs : swapsWith e none pos.line X.env = pure false := by rfl) : SOk X (.Expr e pos :: rest) H0 G M D :=
  s_cons (ps_expr he hs) fun t Hf H s o m => ⟨Hf, o, m, fun v Hf' H' s' m' p => h _ Hf' H' (s.trans s') (o.mono s') m'⟩
theorem s_if {k : Bool} {sa sb : List Stmt} (hc : TyT X c G M k) (h1 : k = true → SOk X sa H0 G M { D with nx := Go X rest D }) (h2 : k = false → SOk X sb H0 G M { D with nx := Go X rest D }) : SOk X (.If c sa sb pos :: rest) H0 G M D := by
  cases k with
  | true => exact s_cons (ps_if hc go_pss go_pss) fun t Hf H s o m => ⟨Hf, o, m, fun Hf' H' s' m' => by
      show (if true = true then _ else _)
      rw [if_pos rfl]
      exact h1 rfl t Hf' H' (s.trans s') (o.mono s') m'⟩
  | false => exact s_cons (ps_if hc go_pss go_pss) fun t Hf H s o m => ⟨Hf, o, m, fun Hf' H' s' m' => by
      show (if false = true then _ else _)
      rw [if_neg Bool.false_ne_true]
      exact h2 rfl t Hf' H' (s.trans s') (o.mono s') m'⟩
/-- an if whose then-branch ends the def -/
theorem s_ifR {k : Bool} {sa : List Stmt} (hc : TyT X c G M k) (h1 : k = true → SOk X sa H0 G M { D with nx := Go X rest D }) (h2 : k = false → SOk X rest H0 G M D) : SOk X (.If c sa [] pos :: rest) H0 G M D :=
  s_if hc h1 fun hk => s_end (h2 hk) rfl
theorem s_par (i j : Nat) {x y : Str} {px py pt : Pos} {kt k2 : Nat} {pt2 : Pos} (ha : TyE X a G M Pa) (hb : TyE X b G M Pb) (h : SOk X rest H0 ((G.set i (some Pa)).set j (some Pb)) M D) (hN : X.N.Nodup) (hc : X.calm = true := by rfl)
    (hi : X.N[i]? = some x := by rfl) (hj : X.N[j]? = some y := by rfl) (hij : i ≠ j := by decide) (hx : X.env.scope.names.lookup x = some .local := by rfl) (hy : X.env.scope.names.lookup y = some .local := by rfl)
    (hs1 : starEach [a, b] X.env = (false, eval a X.env) :: starEach [b] X.env := by rfl) (hs2 : starEach [b] X.env = (false, eval b X.env) :: starEach [] X.env := by rfl)
    (hw : swappedStores [.Tuple [.Name x px, .Name y py] kt pt] (.Tuple [a, b] k2 pt2) X.env = pure (some [x, y]) := by rfl)
    (hs : swapsWithSole [.Tuple [.Name x px, .Name y py] kt pt] (.Tuple [a, b] k2 pt2) pos.line X.env = pure false := by rfl) : SOk X (.Assign [.Tuple [.Name x px, .Name y py] kt pt] (.Tuple [a, b] k2 pt2) pos :: rest) H0 G M D :=
  s_cons (ps_par hc hN hi hj hij hx hy (a_cons ha (a_cons hb a_nil hs2) hs1) hw hs) fun t Hf H s o m => ⟨Hf, o, m, fun vs Hf' H' s' m' its => by
    obtain ⟨v, w, rfl, p1, p2⟩ := it2 its
    exact ⟨v, w, rfl, h _ Hf' H' (s.trans s') (((o.mono s').set p1).set p2) m'⟩⟩
/-! ### unpacking -/
def setN (G : Ctx) : List Nat → List VP → Ctx
  | i :: is, P :: Ps => setN (G.set i (some P)) is Ps
  | _, _ => G
/-- targets that are names, one slot each -/
def gNames : List Nat → TGs
  | [] => gNil
  | i :: is => gCons (gName i) (gNames is)
theorem gNames_ok : ∀ {is : List Nat} {Ps : List VP} {vs : List V} {G : Ctx} {t : L2.St} {H Hf : Hp} {Q : L2.St → Hp → Prop}, is.length = Ps.length → Items Ps vs Hf → OkS G t Hf → (∀ t', OkS (setN G is Ps) t' Hf → Q t' H) → gNames is vs t H Q
  | [], [], [], _, _, _, _, _, _, _, o, q => ⟨rfl, q _ o⟩
  | i :: is, P :: Ps, v :: vs, G, t, H, Hf, Q, hl, its, o, q => ⟨v, vs, rfl, gNames_ok (by simpa using hl) its.2 (o.set its.1) q⟩
  | [], _ :: _, _, _, _, _, _, _, hl, _, _, _ => by simp at hl
  | _ :: _, [], _, _, _, _, _, _, hl, _, _, _ => by simp at hl
  | [], [], _ :: _, _, _, _, _, _, _, its, _, _ => its.elim
  | _ :: _, _ :: _, [], _, _, _, _, _, _, its, _, _ => its.elim
theorem gTup_ok {is : List Nat} {v : V} {t : L2.St} {H Hf : Hp} {Q : L2.St → Hp → Prop} (hl : is.length = Ps.length) (p : (vTu Ps).p v Hf) (o : OkS G t Hf) (s : Same Hf H) (q : ∀ t', OkS (setN G is Ps) t' Hf → Q t' H) : gTup X.K is.length (gNames is) v t H Q := by
  obtain ⟨ad, xs, rfl, hx, its⟩ := p
  exact ⟨ad, xs, rfl, SqT.of (s _ _ hx), by rw [its.len, hl], gNames_ok hl its o q⟩
theorem s_unp (is : List Nat) {tg : Expr} (he : TyE X e G M (vTu Ps)) (hg : PG X tg (gTup X.K is.length (gNames is))) (hl : is.length = Ps.length) (h : SOk X rest H0 (setN G is Ps) M D)
    (hs : swapsWithSole [tg] e pos.line X.env = pure false := by rfl) (hw : swappedStores [tg] e X.env = pure none := by rfl) (h1 : (assignEach [tg] X.env).map (·.2) = [assign tg X.env] := by rfl) : SOk X (.Assign [tg] e pos :: rest) H0 G M D :=
  s_cons (ps_asg he hg hs hw h1) fun t Hf H s o m => ⟨Hf, o, m, fun v Hf' H' s' m' p => gTup_ok hl p (o.mono s') m'.same fun t' o' => h t' Hf' H' (s.trans s') o' m'⟩
/-! ### loops -/
/-- what a walk gives -/
structure TW (J : It) (n : Nat) (F : Hp → Prop) (Yp : Nat → VP) : Prop where
  mono : ∀ H H', Same H H' → F H → F H'
  go : ∀ i H, i < n → F H → J.go i H
  stop : ∀ H, F H → J.stop n H
  yld : ∀ (M : MCtx) i Hf H x H', i < n → F Hf → OkM M Hf H → J.yld i H x H' → ∃ Hf', Same Hf Hf' ∧ OkM M Hf' H' ∧ (Yp i).p x Hf'
def PIt (X : Cx) (tg iter : Expr) (G : Ctx) (M : MCtx) (n : Nat) (Yp : Nat → VP) : Prop :=
  PI X tg iter (fun t H R => ∃ Hf, OkS G t Hf ∧ OkM M Hf H ∧ ∀ J Hf' H' F, Same Hf Hf' → OkM M Hf' H' → F Hf' → TW J n F Yp → R J H')
theorem PI.imp {tg iter : Expr} {w w' : TI} (h : PI X tg iter w) (k : ∀ t H R, w' t H R → w t H R) : PI X tg iter w' := ⟨fun pins s t H R I q => h.run pins s t H R I (k _ _ _ q)⟩
def atP (Ps : List VP) (i : Nat) : VP := Ps.getD i vAny
theorem atP_get {i : Nat} (h : i < Ps.length) : Ps[i]? = some (atP Ps i) := by
  unfold atP
  rw [List.getD_eq_getElem?_getD, List.getElem?_eq_getElem h]; rfl
theorem SqT.same {K : PySem.W.Frag} {H H' : Hp} {a : Addr} {xs : List V} (e : Same H H') (h : SqT K H a xs) : SqT K H' a xs := by
  rcases h with (h | ⟨o, h⟩) | h
  · exact .inl (.inl (e _ _ h))
  · exact .inl (.inr ⟨o, e _ _ h⟩)
  · exact .inr h
theorem tw_tup {K : PySem.W.Frag} {ad : Addr} {xs : List V} : TW (Itt K ad) Ps.length (fun H => SqT K H ad xs ∧ Items Ps xs H) (atP Ps) where
  mono := fun H H' s h => ⟨SqT.same s h.1, h.2.mono s⟩
  go := fun i H hi h => walk_tup.goes i H (by rw [h.2.len]; exact hi) h.1
  stop := fun H h => by rw [← h.2.len]; exact walk_tup.stops H h.1
  yld := fun M i Hf H x H' hi h m y => by
    obtain ⟨e, q⟩ := walk_tup.yields i H x H' (by rw [h.2.len]; exact hi) (SqT.same m.same h.1) y
    subst e
    obtain ⟨v, hv, pv⟩ := h.2.get (atP_get hi)
    rw [q] at hv
    cases hv
    exact ⟨Hf, Same.refl Hf, m, pv⟩
theorem tw_list {K : PySem.W.Frag} {ad : Addr} {xs : List V} : TW (Itl K ad) Ps.length (fun H => SqL K H ad xs ∧ Items Ps xs H) (atP Ps) where
  mono := fun H H' s h => ⟨Same.seq s h.1, h.2.mono s⟩
  go := fun i H hi h => walk_list.goes i H (by rw [h.2.len]; exact hi) h.1
  stop := fun H h => by rw [← h.2.len]; exact walk_list.stops H h.1
  yld := fun M i Hf H x H' hi h m y => by
    obtain ⟨e, q⟩ := walk_list.yields i H x H' (by rw [h.2.len]; exact hi) (Same.seq m.same h.1) y
    subst e
    obtain ⟨v, hv, pv⟩ := h.2.get (atP_get hi)
    rw [q] at hv
    cases hv
    exact ⟨Hf, Same.refl Hf, m, pv⟩
theorem tw_range {lo : Int} {n : Nat} : TW (Itr lo n) n (fun _ => True) (fun i => vI (lo + i)) where
  mono := fun H H' s h => trivial
  go := fun i H hi h => hi
  stop := fun H h => Nat.le_refl _
  yld := fun M i Hf H x H' hi h m y => by
    obtain ⟨e, q⟩ := y
    subst e
    exact ⟨Hf, Same.refl Hf, m, q⟩
theorem tw_rangeC {lo c : Int} {n : Nat} : TW (Itc lo c n) n (fun _ => True) (fun i => vI (lo + (i : Nat) * c)) where
  mono := fun H H' s h => trivial
  go := fun i H hi h => hi
  stop := fun H h => Nat.le_refl _
  yld := fun M i Hf H x H' hi h m y => by
    obtain ⟨e, q⟩ := y
    subst e
    exact ⟨Hf, Same.refl Hf, m, q⟩
theorem tw_pair {J : It} {n : Nat} {F : Hp → Prop} {Yp Zp : Nat → VP} {W : Hp → Prop} {xs ys : Nat → Option V} (w : Walk J n W (YPair xs ys)) (hF : ∀ H H', Same H H' → F H → F H') (hW : ∀ H, F H → W H)
    (hx : ∀ i Hf x, i < n → F Hf → xs i = some x → (Yp i).p x Hf) (hy : ∀ i Hf x, i < n → F Hf → ys i = some x → (Zp i).p x Hf) : TW J n F (fun i => vTu [Yp i, Zp i]) where
  mono := hF
  go := fun i H hi h => w.goes i H hi (hW H h)
  stop := fun H h => w.stops H (hW H h)
  yld := fun M i Hf H x H' hi h m y => by
    obtain ⟨T, p, q, rfl, hT, rfl, e1, e2⟩ := w.yields i H x H' hi (hW H (hF _ _ m.same h)) y
    have hTf := m.free hT
    exact ⟨upd Hf T (.tup [p, q]), same_upd hTf, m.new hT, T, [p, q], rfl, upd_same, (Yp i).m _ _ _ (same_upd hTf) (hx i Hf p hi h e1), (Zp i).m _ _ _ (same_upd hTf) (hy i Hf q hi h e2), trivial⟩
theorem pi_seq {tg : Expr} (h : TyE X e G M (vSq Ps)) : PIt X tg e G M Ps.length (atP Ps) := by
  refine ⟨fun pins s t H R I q => ?_⟩
  obtain ⟨Hf, o, m, k⟩ := q
  refine thn (h.run pins s t H (fun x H1 => ∃ Hf', Same Hf Hf' ∧ OkM M Hf' H1 ∧ (vSq Ps).p x Hf') I ⟨Hf, o, m, fun v Hf' H' s' m' p => ⟨Hf', s', m', p⟩⟩) fun v s1 ⟨x, H1, I1, r1, Hf', s', m', p⟩ => ?_
  rcases p with ⟨ad, xs, rfl, hx, its⟩ | ⟨ad, xs, rfl, hx, its⟩
  · cases r1
    have hq : SqT X.K H1 ad xs := SqT.of (m'.same _ _ hx)
    obtain ⟨us, rv, p, hz⟩ := I1.tuple hq
    refine PySem.wpAny_pyIter_tuple (show s1.heap.IsTuple ad us.toArray from p) ?_
    refine ⟨s1.heap.objs.size, [s1.heap.objs.size], _, _, H1, rfl, I1.kept (t' := s1.toks) fun b o e => Heap.get?_push_of_some _ e, turn_tuple ad _, ⟨_, Heap.get?_push_size _ rfl, rfl, rfl⟩, fun b hb => ?_, k _ Hf' H1 (fun H => SqT X.K H ad xs ∧ Items Ps xs H) s' m' ⟨SqT.of hx, its⟩ tw_tup⟩
    have e : b = s1.heap.objs.size := by simpa using hb
    subst e
    exact I1.fpOk (Nat.le_refl _) (I1.hok.fresh (Nat.le_refl _))
  · cases r1
    have hq : SqL X.K H1 ad xs := SqL.of (m'.same _ _ hx)
    obtain ⟨us, rv, p, hz⟩ := I1.list hq
    refine PySem.wpAny_pyIter_list p.isList ?_
    refine ⟨s1.heap.objs.size, [s1.heap.objs.size], _, _, H1, rfl, I1.kept (t' := s1.toks) fun b o e => Heap.get?_push_of_some _ e, turn_list ad _, ⟨_, Heap.get?_push_size _ rfl, rfl, rfl⟩, fun b hb => ?_, k _ Hf' H1 (fun H => SqL X.K H ad xs ∧ Items Ps xs H) s' m' ⟨SqL.of hx, its⟩ tw_list⟩
    have e : b = s1.heap.objs.size := by simpa using hb
    subst e
    exact I1.fpOk (Nat.le_refl _) (I1.hok.fresh (Nat.le_refl _))
theorem p_range1 {tg : Expr} {i : Int} {p : Pos} (h : TyE X a G M (vI i)) (h1 : -(2 ^ 62) ≤ i) (h2 : i < 2 ^ 62) (hg : Gl X "range") (hm : X.mg "range" = none) (hs : starEach [a] X.env = [(false, eval a X.env)] := by rfl) :
    PIt X tg (.Call (.Name "range" p) [a] [] pos) G M i.toNat (fun l => vI (0 + (l : Nat))) :=
  PI.imp (pi_range1 hg hm (a_cons h a_nil hs) hs) fun t H R ⟨Hf, o, m, k⟩ => ⟨Hf, o, m, fun vs Hf' H' s' m' its => by
    obtain ⟨x, rfl, e⟩ := it1 its
    have e : x = .int i := e
    subst e
    exact ⟨i, rfl, h1, h2, k _ Hf' H' _ s' m' trivial tw_range⟩⟩
theorem p_range2 {tg : Expr} {i j : Int} {p : Pos} (h : TyE X a G M (vI i)) (h' : TyE X b G M (vI j)) (h1 : -(2 ^ 62) ≤ i ∧ i < 2 ^ 62 ∧ -(2 ^ 62) ≤ j ∧ j < 2 ^ 62) (hg : Gl X "range") (hm : X.mg "range" = none)
    (hs : starEach [a, b] X.env = [(false, eval a X.env), (false, eval b X.env)] := by rfl) (hs2 : starEach [b] X.env = [(false, eval b X.env)] := by rfl) :
    PIt X tg (.Call (.Name "range" p) [a, b] [] pos) G M (j - i).toNat (fun l => vI (i + (l : Nat))) :=
  PI.imp (pi_range2 hg hm (a_cons h (a_cons h' a_nil hs2) (by rw [hs, hs2])) hs hs2) fun t H R ⟨Hf, o, m, k⟩ => ⟨Hf, o, m, fun vs Hf' H' s' m' its => by
    obtain ⟨x, y, rfl, e, e'⟩ := it2 its
    have e : x = .int i := e
    have e' : y = .int j := e'
    subst e e'
    exact ⟨i, j, rfl, h1, k _ Hf' H' _ s' m' trivial tw_range⟩⟩
theorem it3 {P Q R : VP} {vs : List V} {H : Hp} (h : Items [P, Q, R] vs H) : ∃ x y z, vs = [x, y, z] ∧ P.p x H ∧ Q.p y H ∧ R.p z H := by
  match vs, h with
  | [x, y, z], h => exact ⟨x, y, z, rfl, h.1, h.2.1, h.2.2.1⟩
theorem p_down {tg : Expr} {i j : Int} {p : Pos} (h : TyE X a G M (vI i)) (h' : TyE X b G M (vI j)) (h'' : TyE X c G M (vI (-1))) (h1 : -(2 ^ 62) ≤ i ∧ i < 2 ^ 62 ∧ -(2 ^ 62) ≤ j ∧ j < 2 ^ 62) (hg : Gl X "range") (hm : X.mg "range" = none)
    (hs : starEach [a, b, c] X.env = (false, eval a X.env) :: starEach [b, c] X.env := by rfl) (hs2 : starEach [b, c] X.env = (false, eval b X.env) :: starEach [c] X.env := by rfl) (hs3 : starEach [c] X.env = (false, eval c X.env) :: starEach [] X.env := by rfl) (hpl : (backTo pos (starEach [b, c] X.env)).any (·.1) = false := by rfl) :
    PIt X tg (.Call (.Name "range" p) [a, b, c] [] pos) G M (i - j).toNat (fun l => vI (i + (l : Nat) * (-1))) :=
  PI.imp (pi_range3 hg hm (a_cons h (a_cons h' (a_cons h'' a_nil hs3) hs2) hs) hs hpl) fun t H R ⟨Hf, o, m, k⟩ => ⟨Hf, o, m, fun vs Hf' H' s' m' its => by
    obtain ⟨x, y, z, rfl, e, e', e''⟩ := it3 its
    have e : x = .int i := e
    have e' : y = .int j := e'
    have e'' : z = .int (-1) := e''
    subst e e' e''
    exact ⟨i, j, -1, _, rfl, RgC.neg h1.1 h1.2.1 h1.2.2.1 h1.2.2.2, k _ Hf' H' _ s' m' trivial tw_rangeC⟩⟩
/-- what is reached at a turn's end -/
def Nx {I : Type} (Hb : Hp) (Good : I → Prop) (Gf : I → Ctx) (Mf : I → MCtx) (t : L2.St) (H : Hp) : Prop := ∃ i Hf, Good i ∧ Same Hb Hf ∧ OkS (Gf i) t Hf ∧ OkM (Mf i) Hf H
theorem nx_ok {I : Type} {Hb : Hp} {Good : I → Prop} {Gf : I → Ctx} {Mf : I → MCtx} (i : I) (hi : Good i) {D : Ends} (hD : D.nx = Nx Hb Good Gf Mf) (hs : SubC (Gf i) G) (hm : M = Mf i) : SOk X [] Hb G M D :=
  s_nil fun t Hf H s o m => by rw [hD]; exact ⟨i, Hf, hi, s, o.sub hs, hm ▸ m⟩
theorem ct_ok {I : Type} {Hb : Hp} {Good : I → Prop} {Gf : I → Ctx} {Mf : I → MCtx} (i : I) (hi : Good i) {D : Ends} (hD : D.ct = Nx Hb Good Gf Mf) (hs : SubC (Gf i) G) (hm : M = Mf i) : SOk X (.Continue pos :: rest) Hb G M D :=
  s_cont fun t Hf H s o m => by rw [hD]; exact ⟨i, Hf, hi, s, o.sub hs, hm ▸ m⟩
/-- THE for: I the letters of the invariant, by the turn -/
theorem s_for {I : Type} {tg iter : Expr} {n : Nat} {Yp : Nat → VP} {g : TG} (hit : PIt X tg iter G M n Yp) (hg : PG X tg g) (sG : Nat → Ctx → Ctx)
    (hgo : ∀ (i : Nat) (G : Ctx) (x : V) (t : L2.St) (Hf H : Hp) (Q : L2.St → Hp → Prop), i < n → (Yp i).p x Hf → OkS G t Hf → Same Hf H → (∀ t', OkS (sG i G) t' Hf → Q t' H) → g x t H Q)
    (Good : Nat → I → Prop) (Gf : Nat → I → Ctx) (Mf : Nat → I → MCtx) (i0 : I) (h0 : Good 0 i0) (hG0 : SubC (Gf 0 i0) G) (hM0 : M = Mf 0 i0)
    (hb : ∀ (Hb : Hp) (k : Nat) (i : I), Same H0 Hb → k < n → Good k i → SOk X body Hb (sG k (Gf k i)) (Mf k i) { D with nx := Nx Hb (Good (k + 1)) (Gf (k + 1)) (Mf (k + 1)), ct := Nx Hb (Good (k + 1)) (Gf (k + 1)) (Mf (k + 1)), bk := Go X rest D })
    (hd : ∀ (Hb : Hp) (i : I), Same H0 Hb → Good n i → SOk X rest Hb (Gf n i) (Mf n i) D) (hp : PassesOwn (model X.prog X.w) X.A X.env X.xe) (hc : X.calm = true := by rfl) (hs : ∀ x, foldedSetIterable iter X.env x = pure x := by intro _; rfl) : SOk X (.For tg iter body [] pos :: rest) H0 G M D := by
  refine s_cons (ps_for hp hc hit hg go_pss hs) fun t Hf H s o m => ⟨Hf, o, m, fun J Hf' H' F s' m' f w => ?_⟩
  have sb : Same H0 Hf' := s.trans s'
  refine ⟨fun k mm t' H1 => mm = n - k ∧ k ≤ n ∧ Nx Hf' (Good k) (Gf k) (Mf k) t' H1, ⟨n, by simp, Nat.zero_le _, i0, Hf', h0, Same.refl _, (o.mono s').sub hG0, hM0 ▸ m'⟩, ?_⟩
  rintro k mm t' H1 ⟨rfl, hk, i, Hg, hi, sg, og, mg⟩
  have fg : F Hg := w.mono _ _ sg f
  have f1 : F H1 := w.mono _ _ mg.same fg
  by_cases hlt : k < n
  · refine .inr ⟨w.go k H1 hlt f1, Nx Hf' (Good (k + 1)) (Gf (k + 1)) (Mf (k + 1)), fun t2 H2 q => ⟨n - (k + 1), by omega, rfl, hlt, q⟩, fun x H2 y => ?_⟩
    obtain ⟨Hy, sy, my, py⟩ := w.yld _ k Hg H1 x H2 hlt fg mg y
    exact hgo k (Gf k i) x t' Hy H2 _ hlt py (og.mono sy) my.same fun t2 o2 => hb Hf' k i sb hlt hi t2 Hy H2 (sg.trans sy) o2 my
  · have e : k = n := by omega
    subst e
    exact .inl ⟨w.stop H1 f1, hd Hf' i sb hi t' Hg H1 sg og mg⟩
theorem go_name (j : Nat) {n : Nat} {Yp : Nat → VP} : ∀ (i : Nat) (G : Ctx) (x : V) (t : L2.St) (Hf H : Hp) (Q : L2.St → Hp → Prop), i < n → (Yp i).p x Hf → OkS G t Hf → Same Hf H → (∀ t', OkS ((fun i (G : Ctx) => G.set j (some (Yp i))) i G) t' Hf → Q t' H) → gName j x t H Q :=
  fun _ _ _ _ _ _ _ _ p o _ q => q _ (o.set p)
theorem go_tup (is : List Nat) {n : Nat} {Yps : Nat → List VP} (hl : ∀ i, is.length = (Yps i).length) : ∀ (i : Nat) (G : Ctx) (x : V) (t : L2.St) (Hf H : Hp) (Q : L2.St → Hp → Prop), i < n → ((fun i => vTu (Yps i)) i).p x Hf → OkS G t Hf → Same Hf H → (∀ t', OkS ((fun i (G : Ctx) => setN G is (Yps i)) i G) t' Hf → Q t' H) → gTup X.K is.length (gNames is) x t H Q :=
  fun i _ _ _ _ _ _ _ p o s q => gTup_ok (hl i) p o s q
/-- THE while -/
theorem s_while {I : Type} (Good : I → Prop) (Gf : I → Ctx) (Mf : I → MCtx) (mu : I → Nat) (bf : I → Bool) (i0 : I) (h0 : Good i0) (hG0 : SubC (Gf i0) G) (hM0 : M = Mf i0) (hc : ∀ i, Good i → TyT X c (Gf i) (Mf i) (bf i))
    (hb : ∀ (Hb : Hp) (i : I), Same H0 Hb → Good i → bf i = true → SOk X body Hb (Gf i) (Mf i) { D with nx := Nx Hb (fun j => Good j ∧ mu j < mu i) Gf Mf, ct := Nx Hb (fun j => Good j ∧ mu j < mu i) Gf Mf, bk := Go X rest D })
    (hd : ∀ (Hb : Hp) (i : I), Same H0 Hb → Good i → bf i = false → SOk X rest Hb (Gf i) (Mf i) D) (hp : PassesOwn (model X.prog X.w) X.A X.env X.xe) : SOk X (.While c body [] pos :: rest) H0 G M D := by
  -- the test is read for every state of the invariant at once
  have hT : PT X c (fun t H Q => ∃ i, Good i ∧ rdT (Gf i) (Mf i) (bf i) t H Q) := ⟨fun pins s t H Q I ⟨i, hi, w⟩ => (hc i hi).run pins s t H Q I w⟩
  refine s_cons (ps_while hp hT go_pss) fun t Hf H s o m => ?_
  refine ⟨fun mm t' H1 => ∃ i Hg, mm = mu i ∧ Good i ∧ Same Hf Hg ∧ OkS (Gf i) t' Hg ∧ OkM (Mf i) Hg H1, ⟨_, i0, Hf, rfl, h0, Same.refl _, o.sub hG0, hM0 ▸ m⟩, ?_⟩
  rintro mm t' H1 ⟨i, Hg, rfl, hi, sg, og, mg⟩
  refine ⟨i, hi, Hg, og, mg, fun Hg' H' s' m' => ?_⟩
  cases hk : bf i with
  | true =>
    show (if true = true then _ else _)
    rw [if_pos rfl]
    refine ⟨Nx Hg' (fun j => Good j ∧ mu j < mu i) Gf Mf, fun t2 H2 ⟨j, Hj, ⟨gj, lj⟩, sj, oj, mj⟩ => ⟨mu j, lj, j, Hj, rfl, gj, (sg.trans s').trans sj, oj, mj⟩, ?_⟩
    exact hb Hg' i ((s.trans sg).trans s') hi hk t' Hg' H' (Same.refl _) (og.mono s') m'
  | false =>
    show (if false = true then _ else _)
    rw [if_neg Bool.false_ne_true]
    exact hd Hg' i ((s.trans sg).trans s') hi hk t' Hg' H' (Same.refl _) (og.mono s') m'
/-! ### the changing lists -/
theorem MIt.set : ∀ {M : MCtx} {L : List ME} {H : Hp} {k : Nat} {m : MT} {e : ME}, MIt M L H → MIt1 m e H → MIt (M.set k m) (L.set k e) H
  | [], [], _, _, _, _, _, _ => trivial
  | m :: M, e :: L, H, 0, m', e', h, h' => ⟨h', h.2⟩
  | m :: M, e :: L, H, k + 1, m', e', h, h' => ⟨h.1, MIt.set h.2 h'⟩
  | [], _ :: _, _, _, _, _, h, _ => h.elim
  | _ :: _, [], _, _, _, _, h, _ => h.elim
theorem upd_comm {H : Hp} {a b : Addr} {o u : HO} (h : a ≠ b) : upd (upd H a o) b u = upd (upd H b u) a o := by
  funext z
  by_cases h1 : z = b
  · subst h1; rw [upd_same, upd_ne h.symm, upd_same]
  · by_cases h2 : z = a
    · subst h2; rw [upd_ne h1, upd_same, upd_same]
    · rw [upd_ne h1, upd_ne h2, upd_ne h2, upd_ne h1]
/-- the k-th changing list gets other items -/
theorem OkM.put {k : Nat} {ad : Addr} {Hf H : Hp} (h : OkM M Hf H) (hk : M[k]? = some (.l ad Ps)) {xs' : List V} (its : Items Qs xs' Hf) : OkM (M.set k (.l ad Qs)) Hf (upd H ad (.lst xs')) := by
  obtain ⟨L, rfl, f, mi⟩ := h
  have key : ∀ {M : MCtx} {L : List ME} {k : Nat}, FrL L Hf → MIt M L Hf → M[k]? = some (.l ad Ps) → lay (L.set k (.l ad xs')) Hf = upd (lay L Hf) ad (.lst xs') ∧ FrL (L.set k (.l ad xs')) Hf ∧ lay L Hf ad ≠ none := by
    intro M L
    revert M
    induction L with
    | nil => intro M k _ mi e; cases M with
      | nil => simp at e
      | cons _ _ => exact mi.elim
    | cons e L ih =>
      intro M k f mi hk
      cases M with
      | nil => exact mi.elim
      | cons m M =>
        cases k with
        | zero =>
          have : m = .l ad Ps := by simpa using hk
          subst this
          cases e with
          | l b ys =>
            obtain ⟨rfl, _⟩ := mi.1
            refine ⟨?_, ⟨f.1, f.2⟩, ?_⟩
            · show upd (lay L Hf) ad (.lst xs') = upd (upd (lay L Hf) ad (.lst ys)) ad (.lst xs')
              rw [upd_upd]
            · show upd (lay L Hf) ad (.lst ys) ad ≠ none
              rw [upd_same]; intro z; cases z
          | i x dx C fs => exact mi.1.elim
        | succ k =>
          obtain ⟨e1, e2, e3⟩ := ih (k := k) f.2 mi.2 (by simpa using hk)
          cases e with
          | l b ys =>
            have hf : lay L Hf b = none := f.1
            have hne : ad ≠ b := fun q => by rw [q] at e3; exact e3 hf
            refine ⟨?_, ⟨?_, e2⟩, ?_⟩
            · show upd (lay (L.set k _) Hf) b (.lst ys) = upd (upd (lay L Hf) b (.lst ys)) ad (.lst xs')
              rw [e1, upd_comm hne]
            · show lay (L.set k _) Hf b = none
              rw [e1, upd_ne hne.symm]; exact hf
            · show upd (lay L Hf) b (.lst ys) ad ≠ none
              rw [upd_ne hne]; exact e3
          | i x dx C fs =>
            obtain ⟨hf1, hf2, hf3⟩ : lay L Hf x = none ∧ lay L Hf dx = none ∧ dx ≠ x := f.1
            have hne : ad ≠ x := fun q => by rw [q] at e3; exact e3 hf1
            have hne2 : ad ≠ dx := fun q => by rw [q] at e3; exact e3 hf2
            refine ⟨?_, ⟨?_, e2⟩, ?_⟩
            · show upd (upd (lay (L.set k _) Hf) dx _) x _ = upd (upd (upd (lay L Hf) dx _) x _) ad (.lst xs')
              rw [e1, upd_comm hne2, upd_comm hne]
            · show lay (L.set k _) Hf x = none ∧ lay (L.set k _) Hf dx = none ∧ dx ≠ x
              rw [e1, upd_ne hne.symm, upd_ne hne2.symm]; exact ⟨hf1, hf2, hf3⟩
            · show upd (upd (lay L Hf) dx _) x _ ad ≠ none
              rw [upd_ne hne, upd_ne hne2]; exact e3
  obtain ⟨e1, e2, _⟩ := key f mi hk
  exact ⟨_, e1.symm, e2, mi.set ⟨rfl, its⟩⟩
theorem s_setL (k : Nat) {i : Nat} {ad : Addr} {o ix : Expr} {tpos : Pos} (hM : M[k]? = some (.l ad Ps)) (he : TyE X e G M P) (ho : TyE X o G M (vAt ad)) (hi : TyE X ix G M (vI (i : Int))) (hl : i < Ps.length) (h : SOk X rest H0 G (M.set k (.l ad (Ps.set i P))) D)
    (ha : ∀ v, assign (.Subscript o ix tpos) X.env v = (do
      let ov ← holding [v] (eval o X.env)
      let iv ← holding [v, ov] (eval ix X.env)
      standAt tpos
      holding [v, ov, iv] (setItem ov iv v)
      release [v, ov, iv] []) := by intro _; rfl)
    (hs : swapsWithSole [.Subscript o ix tpos] e pos.line X.env = pure false := by rfl) (hw : swappedStores [.Subscript o ix tpos] e X.env = pure none := by rfl) (h1 : (assignEach [.Subscript o ix tpos] X.env).map (·.2) = [assign (.Subscript o ix tpos) X.env] := by rfl) :
    SOk X (.Assign [.Subscript o ix tpos] e pos :: rest) H0 G M D :=
  s_cons (ps_asg he (pg_sub ho hi set_list ha) hs hw h1) fun t Hf H s ok m => ⟨Hf, ok, m, fun v H1f H1 s1 m1 p => ⟨H1f, ok.mono s1, m1, fun x H2f H2 s2 m2 (px : x = .ref ad) => ⟨H2f, (ok.mono s1).mono s2, m2, fun y H3f H3 s3 m3 (py : y = .int i) => by
    obtain ⟨xs, hx, its⟩ := m3.at_ hM
    have hlen := its.len
    have hix : ixN xs.length (i : Int) = some i := by
      unfold ixN
      rw [if_pos (by omega), if_pos (by omega)]; rfl
    exact ⟨ad, xs, i, i, px, py, hx, hix, h t H3f _ (((s.trans s1).trans s2).trans s3) (((ok.mono s1).mono s2).mono s3) (m3.put hM (its.set (P.m _ _ _ (s2.trans s3) p)))⟩⟩⟩⟩
theorem s_app (k : Nat) {ad : Addr} {o : Expr} {apos cpos : Pos} (hM : M[k]? = some (.l ad Ps)) (ho : TyE X o G M (vAt ad)) (he : TyE X e G M P) (hl : Ps.length ≤ 100000) (h : SOk X rest H0 G (M.set k (.l ad (Ps ++ [P]))) D)
    (hpe : ∀ (to : TE) (t : TA), PE X o to → PA X [e] t → PE X (.Call (.Attribute o "append" apos) [e] [] cpos) (tBM X.K "list" rAppend to t) := by exact fun _ _ ho ha => pe_bm PySem.F.plainAttrs_list PySem.F.slot_list_append PySem.F.type_list_append mt_append ho ha)
    (hst : starEach [e] X.env = (false, eval e X.env) :: starEach [] X.env := by rfl)
    (hs : swapsWith (.Call (.Attribute o "append" apos) [e] [] cpos) none pos.line X.env = pure false := by rfl) : SOk X (.Expr (.Call (.Attribute o "append" apos) [e] [] cpos) pos :: rest) H0 G M D :=
  s_cons (ps_expr (hpe _ _ ho (a_cons he a_nil hst)) hs) fun t Hf H s ok m => ⟨Hf, ok, m, fun v H1f H1 s1 m1 (pv : v = .ref ad) => by
    subst pv
    obtain ⟨xs, hx, its⟩ := m1.at_ hM
    refine ⟨.inl ⟨rfl, _, SqL.of hx⟩, H1f, ok.mono s1, m1, fun vs H2f H2 s2 m2 itv => ?_⟩
    obtain ⟨y, rfl, py⟩ := it1 itv
    obtain ⟨ys, hy, its2⟩ := m2.at_ hM
    refine ⟨ad, ys, y, rfl, rfl, hy, ?_, h t H2f _ ((s.trans s1).trans s2) ((ok.mono s1).mono s2) (m2.put hM (its2.append ⟨py, trivial⟩))⟩
    rw [its2.len]
    exact Nat.lt_of_le_of_lt hl (by decide)⟩
/-- all changing things come to rest -/
theorem s_rest {G' : Ctx} (h : SOk X sts H0 G' [] D) (hG : ∀ (t : L2.St) (Hf H : Hp), OkS G t Hf → OkM M Hf H → OkS G' t H) : SOk X sts H0 G M D :=
  fun t Hf H s o m => h t H H (s.trans m.same) (hG t Hf H o m) (okm_nil H)
/-- the head comes to rest -/
theorem OkM.calm {ad : Addr} {Hf H : Hp} (h : OkM (.l ad Ps :: M) Hf H) : ∃ Hf', Same Hf Hf' ∧ OkM M Hf' H ∧ (vLs Ps).p (.ref ad) Hf' := by
  obtain ⟨L, rfl, f, mi⟩ := h
  cases L with
  | nil => exact mi.elim
  | cons e L =>
    cases e with
    | l b xs =>
      obtain ⟨rfl, its⟩ := mi.1
      have h1 : OkM M Hf (lay L Hf) := ⟨L, rfl, f.2, mi.2⟩
      have hf : lay L Hf ad = none := f.1
      exact ⟨_, same_upd (h1.free hf), h1.new hf, ad, xs, rfl, upd_same, its.mono (same_upd (h1.free hf))⟩
    | i x dx C fs => exact mi.1.elim
/-! ### new lists that will be changed -/
def TyN (X : Cx) (e : Expr) (G : Ctx) (M : MCtx) (Ps : List VP) : Prop := PE X e (fun t H Q => ∃ Hf, OkS G t Hf ∧ OkM M Hf H ∧ ∀ ad Hf' H', Same Hf Hf' → OkM (.l ad Ps :: M) Hf' H' → Q (.ref ad) H')
theorem OkM.push {Hf H : Hp} {T : Addr} {xs : List V} (h : OkM M Hf H) (hT : H T = none) (its : Items Ps xs Hf) : OkM (.l T Ps :: M) Hf (upd H T (.lst xs)) := by
  obtain ⟨L, rfl, f, mi⟩ := h
  exact ⟨.l T xs :: L, rfl, ⟨hT, f⟩, ⟨rfl, its⟩, mi⟩
theorem TyN.ty (h : TyN X e G M Ps) : TyE X e G M (vLs Ps) := PE.imp h fun t H Q ⟨Hf, o, m, k⟩ => ⟨Hf, o, m, fun ad Hf' H' s' m' => by
  obtain ⟨Hg, sg, mg, pg⟩ := m'.calm
  exact k _ Hg H' (s'.trans sg) mg pg⟩
theorem n_lst {es : List Expr} (h : TyA X es G M Ps) (hl : Ps.length ≤ 100 := by decide) : TyN X (.List es pos) G M Ps :=
  PE.imp (pe_lst h) fun t H Q ⟨Hf, o, m, k⟩ => ⟨Hf, o, m, fun vs H1f H1 s1 m1 its => ⟨by rw [its.len]; exact Nat.le_trans hl (by decide), fun q hq => k q H1f _ s1 (m1.push hq its)⟩⟩
theorem n_list {p : Pos} (ha : TyE X a G M (vSq Ps)) (hg : Gl X "list") (hm : X.mg "list" = none) (hs : starEach [a] X.env = (false, eval a X.env) :: starEach [] X.env := by rfl) : TyN X (.Call (.Name "list" p) [a] [] pos) G M Ps :=
  PE.imp (pe_callTy call_list_of hg hm PyProof.Rows.boot_list (a_cons ha a_nil hs) (by decide) (by decide) hs rfl) fun t H Q ⟨Hf, o, m, k⟩ => ⟨Hf, o, m, fun vs H1f H1 s1 m1 its => by
    obtain ⟨x, rfl, e1⟩ := it1 its
    rcases e1 with ⟨ad, xs, rfl, hx, its⟩ | ⟨ad, xs, rfl, hx, its⟩
    · exact ⟨ad, xs, rfl, .inr (SqT.of (m1.same _ _ hx)), fun l hl => k l H1f _ s1 (m1.push hl its)⟩
    · exact ⟨ad, xs, rfl, .inl (SqL.of (m1.same _ _ hx)), fun l hl => k l H1f _ s1 (m1.push hl its)⟩⟩
theorem s_asgN (i : Nat) {x : Str} {p' : Pos} (he : TyN X e G M Ps) (h : ∀ ad, SOk X rest H0 (G.set i (some (vAt ad))) (.l ad Ps :: M) D) (hN : X.N.Nodup) (hi : X.N[i]? = some x := by rfl) (hx : Loc X.env.scope x := by first | exact Or.inl rfl | exact Or.inr rfl)
    (hs : swapsWith e (some (.Name x p')) pos.line X.env = pure false := by rfl) (hf : X.fn x = true ∨ X.env.scope.names.lookup x = some .local := by first | exact .inl rfl | exact .inr rfl) : SOk X (.Assign [.Name x p'] e pos :: rest) H0 G M D :=
  s_cons (ps_set hN hi hx he hs hf) fun t Hf H s o m => ⟨Hf, o, m, fun ad Hf' H' s' m' => h ad _ Hf' H' (s.trans s') ((o.mono s').set rfl) m'⟩
/-! ### comprehensions -/
def wipeC (G : Ctx) : List Nat → Ctx
  | [] => G
  | v :: vs => (wipeC G vs).set v none
theorem OkS.unset : ∀ {G : Ctx} {t : L2.St} {H : Hp} {i : Nat}, OkS G t H → OkS (G.set i none) (t.set i none) H
  | [], [], _, _, _ => trivial
  | some P :: G, some v :: t, H, 0, h => h.2
  | none :: G, x :: t, H, 0, h => h
  | some P :: G, some v :: t, H, i + 1, h => ⟨h.1, OkS.unset (G := G) (t := t) h.2⟩
  | none :: G, x :: t, H, i + 1, h => OkS.unset (G := G) (t := t) h
  | [], _ :: _, _, _, h => h.elim
  | none :: _, [], _, _, h => h.elim
  | some _ :: _, [], _, _, h => h.elim
  | some _ :: _, none :: _, _, _, h => h.elim
theorem OkS.wipe {G : Ctx} {t : L2.St} {H : Hp} (h : OkS G t H) : ∀ vs : List Nat, OkS (wipeC G vs) (L2.wipe t vs) H
  | [] => h
  | v :: vs => (OkS.wipe h vs).unset
theorem wipe1 (t : L2.St) (j : Nat) (x : Option V) : L2.wipe ((L2.wipe t [j]).set j x) [j] = L2.wipe t [j] := by
  show ((t.set j none).set j x).set j none = t.set j none
  rw [List.set_set, List.set_set]
theorem mapR {f : Nat → VP} {n : Nat} : ((List.range (n + 1)).map f) = (List.range n).map f ++ [f n] := by rw [List.range_succ, List.map_append]; rfl
/-- [elt for .. in iter]: what it comes to -/
theorem lc_read {tg iter elt : Expr} {n : Nat} {Yp Zp : Nat → VP} {g : TG} {sG : Nat → Ctx → Ctx} {vs : List Nat} (hn : n ≤ 100000)
    (hgo : ∀ (i : Nat) (G : Ctx) (x : V) (t : L2.St) (Hf H : Hp) (Q : L2.St → Hp → Prop), i < n → (Yp i).p x Hf → OkS G (L2.wipe t vs) Hf → Same Hf H → (∀ t', L2.wipe t' vs = L2.wipe t vs → OkS (sG i G) t' Hf → Q t' H) → g x (L2.wipe t vs) H Q)
    {t : L2.St} {H : Hp} {Q : VK} (h : ∃ Hf, OkS G t Hf ∧ OkM M Hf H ∧ ∀ ad Hf' H', Same Hf Hf' → OkM (.l ad ((List.range n).map Zp) :: M) Hf' H' → Q (.ref ad) H') :
    tLc (fun t H R => ∃ Hf, OkS G t Hf ∧ OkM M Hf H ∧ ∀ J Hf' H' F, Same Hf Hf' → OkM M Hf' H' → F Hf' → TW J n F Yp → R J H') g tYes (fun t H Q => ∃ i, i < n ∧ ∃ M', rd (sG i (wipeC G vs)) M' (Zp i) t H Q) vs t H Q := by
  obtain ⟨Hf, o, m, k⟩ := h
  refine ⟨Hf, o, m, fun J Hf' H' F s' m' f w dd hdd => ?_⟩
  refine ⟨fun k mm H1 => mm = n - k ∧ k ≤ n ∧ ∃ Hg, Same Hf' Hg ∧ OkM (.l dd ((List.range k).map Zp) :: M) Hg H1, ⟨n, by simp, Nat.zero_le _, Hf', Same.refl _, m'.push hdd trivial⟩, ?_⟩
  rintro l mm H1 ⟨rfl, hl, Hg, sg, mg⟩
  have fg : F Hg := w.mono _ _ sg f
  have f1 : F H1 := w.mono _ _ mg.same fg
  by_cases hlt : l < n
  · refine .inr ⟨w.go l H1 hlt f1, fun H2 => ∃ Hg, Same Hf' Hg ∧ OkM (.l dd ((List.range (l + 1)).map Zp) :: M) Hg H2, fun H2 q => ⟨n - (l + 1), by omega, rfl, hlt, q⟩, fun x H2 y => ?_⟩
    obtain ⟨Hy, sy, my, py⟩ := w.yld _ l Hg H1 x H2 hlt fg mg y
    refine hgo l (wipeC G vs) x t Hy H2 _ hlt py ((((o.mono s').mono sg).mono sy).wipe vs) my.same fun t' ht' ot' => ⟨ht', ?_⟩
    unfold tYes
    dsimp only
    rw [if_pos rfl]
    refine ⟨l, hlt, .l dd ((List.range l).map Zp) :: M, Hy, ot', my, fun v Hv H3 sv mv pv => ?_⟩
    obtain ⟨xs, hx, its⟩ := mv.at_ (k := 0) rfl
    have hlen := its.len
    rw [List.length_map, List.length_range] at hlen
    refine ⟨xs, hx, ?_, Hv, (sg.trans sy).trans sv, ?_⟩
    · rw [hlen]; exact Nat.lt_of_lt_of_le (Nat.lt_of_lt_of_le hlt hn) (by decide)
    · rw [mapR]
      exact mv.put (k := 0) rfl (its.append ⟨pv, trivial⟩)
  · have e : l = n := by omega
    subst e
    exact .inl ⟨w.stop H1 f1, k dd Hg H1 (s'.trans sg) mg⟩
/-- the element's reading in the block -/
theorem lc_elt {elt : Expr} {n : Nat} {Zp : Nat → VP} {sG : Nat → Ctx → Ctx} {Xb : Cx} {G' : Ctx} (h : ∀ i, i < n → TyE Xb elt (sG i G') [] (Zp i)) : PE Xb elt (fun t H Q => ∃ i, i < n ∧ ∃ M', rd (sG i G') M' (Zp i) t H Q) :=
  ⟨fun pins s t H Q I ⟨i, hi, M', w⟩ => ((h i hi).frame (M := M')).run pins s t H Q I w⟩
theorem go_nameW (j : Nat) {n : Nat} {Yp : Nat → VP} : ∀ (i : Nat) (G : Ctx) (x : V) (t : L2.St) (Hf H : Hp) (Q : L2.St → Hp → Prop), i < n → (Yp i).p x Hf → OkS G (L2.wipe t [j]) Hf → Same Hf H → (∀ t', L2.wipe t' [j] = L2.wipe t [j] → OkS ((fun i (G : Ctx) => G.set j (some (Yp i))) i G) t' Hf → Q t' H) → gName j x (L2.wipe t [j]) H Q :=
  fun _ _ _ t _ _ _ _ p o _ q => q _ (wipe1 t j _) (o.set p)
theorem n_lc (j : Nat) {x : Str} {tp : Pos} {iter elt : Expr} {scope : Scope} {n : Nat} {Yp Zp : Nat → VP} (hi : PIt X (.Name x tp) iter G M n Yp) (hn : n ≤ 100000) (hN : X.N.Nodup) (ok : BlkOk X.N X.env.scope scope [(x, j)])
    (hg : ∀ (s : Shared) (H : Hp) (C : Addr) (cl : List (Str × Addr)) (fp : List Addr), PG (X.blk s H scope (compEnvC scope cl C X.env) fp) (.Name x tp) (gName j))
    (he : ∀ (s : Shared) (H : Hp) (C : Addr) (cl : List (Str × Addr)) (fp : List Addr) (i : Nat), i < n → TyE (X.blk s H scope (compEnvC scope cl C X.env) fp) elt ((G.set j none).set j (some (Yp i))) [] (Zp i))
    (hc : X.calm = true := by rfl) (hs : ∀ x, foldedSetIterable iter X.env x = pure x := by intro _; rfl) : TyN X (.ListComp elt [⟨.Name x tp, iter, [], 0⟩] scope pos) G M ((List.range n).map Zp) :=
  PE.imp (pe_lc hc hN hi ok hg (fun _ _ _ _ _ => pts_nil) (fun s H C cl fp => lc_elt (sG := fun i (G : Ctx) => G.set j (some (Yp i))) (he s H C cl fp)) hs) fun t H Q h => lc_read (iter := iter) (elt := elt) (tg := .Name x tp) hn (go_nameW j) h
theorem s_lcN (l j : Nat) {x y : Str} {tp py spos : Pos} {iter elt : Expr} {scope : Scope} {n : Nat} {Yp Zp : Nat → VP} (hi : PIt X (.Name x tp) iter G M n Yp) (hn : n ≤ 100000) (hN : X.N.Nodup) (ok : BlkOk X.N X.env.scope scope [(x, j)])
    (hg : ∀ (s : Shared) (H : Hp) (C : Addr) (cl : List (Str × Addr)) (fp : List Addr), PG (X.blk s H scope (compEnvC scope cl C X.env) fp) (.Name x tp) (gName j))
    (he : ∀ (s : Shared) (H : Hp) (C : Addr) (cl : List (Str × Addr)) (fp : List Addr) (i : Nat), i < n → TyE (X.blk s H scope (compEnvC scope cl C X.env) fp) elt ((G.set j none).set j (some (Yp i))) [] (Zp i))
    (h : ∀ ad, SOk X rest H0 (G.set l (some (vAt ad))) (.l ad ((List.range n).map Zp) :: M) D) (hy : X.N[l]? = some y := by rfl) (hyl : X.env.scope.names.lookup y = some .local := by rfl)
    (hsw : swapsWith (.ListComp elt [⟨.Name x tp, iter, [], 0⟩] scope pos) (some (.Name y py)) spos.line X.env = pure true := by exact sw_true rfl rfl rfl (by decide +kernel))
    (hc : X.calm = true := by rfl) (hs : ∀ x, foldedSetIterable iter X.env x = pure x := by intro _; rfl) : SOk X (.Assign [.Name y py] (.ListComp elt [⟨.Name x tp, iter, [], 0⟩] scope pos) spos :: rest) H0 G M D :=
  s_cons (ps_setLc hc hN hy hyl hsw hi ok hg (fun _ _ _ _ _ => pts_nil) (fun s H C cl fp => lc_elt (sG := fun i (G : Ctx) => G.set j (some (Yp i))) (he s H C cl fp)) hs) fun t Hf H s o m =>
    lc_read (iter := iter) (elt := elt) (tg := .Name x tp) hn (go_nameW j) ⟨Hf, o, m, fun ad Hf' H' s' m' => h ad _ Hf' H' (s.trans s') ((o.mono s').set rfl) m'⟩
end
end K31
set_option Elab.async false
set_option linter.all false
set_option maxRecDepth 100000
set_option maxHeartbeats 1000000
/-! T4: defs and __init__s as wholes; instances that are being changed. -/
namespace K31
open PySem PySem.Spec L2
section
variable {X : Cx} {G : Ctx} {M : MCtx} {P Pa Pb Pc : VP} {a b c e : Expr} {pos : Pos} {Ps Qs : List VP} {H0 : Hp} {D : Ends} {rest sts body : List Stmt} {st : Stmt}
theorem OkM.atI : ∀ {M : MCtx} {k : Nat} {x dx C : Addr} {fs : List (Str × VP)} {Hf H : Hp}, OkM M Hf H → M[k]? = some (.i x dx C fs) → ∃ gs, H x = some (.ins C dx gs) ∧ FIt fs gs Hf := by
  intro M k x dx C fs Hf H h
  obtain ⟨L, rfl, f, mi⟩ := h
  revert M k
  induction L with
  | nil => intro M k mi e; cases M with
    | nil => simp at e
    | cons _ _ => exact mi.elim
  | cons e L ih =>
    intro M k mi hk
    cases M with
    | nil => exact mi.elim
    | cons m M =>
      cases k with
      | zero =>
        have : m = .i x dx C fs := by simpa using hk
        subst this
        cases e with
        | l b xs => exact mi.1.elim
        | i y dy E gs =>
          obtain ⟨rfl, rfl, rfl, its⟩ := mi.1
          exact ⟨gs, upd_same, its⟩
      | succ k =>
        obtain ⟨xs, hx, its⟩ := ih f.2 mi.2 (by simpa using hk)
        exact ⟨xs, same_lay1 f.1 _ _ hx, its⟩
theorem upd_twice {H : Hp} {a : Addr} {o u : HO} : upd (upd H a o) a u = upd H a u := upd_upd
theorem OkM.putI {k : Nat} {x dx C : Addr} {fs fs' : List (Str × VP)} {Hf H : Hp} (h : OkM M Hf H) (hk : M[k]? = some (.i x dx C fs)) {gs' : List (Str × V)} (its : FIt fs' gs' Hf) : OkM (M.set k (.i x dx C fs')) Hf (upd H x (.ins C dx gs')) := by
  obtain ⟨L, rfl, f, mi⟩ := h
  have key : ∀ {M : MCtx} {L : List ME} {k : Nat}, FrL L Hf → MIt M L Hf → M[k]? = some (.i x dx C fs) → lay (L.set k (.i x dx C gs')) Hf = upd (lay L Hf) x (.ins C dx gs') ∧ FrL (L.set k (.i x dx C gs')) Hf ∧ lay L Hf x ≠ none := by
    intro M L
    revert M
    induction L with
    | nil => intro M k _ mi e; cases M with
      | nil => simp at e
      | cons _ _ => exact mi.elim
    | cons e L ih =>
      intro M k f mi hk
      cases M with
      | nil => exact mi.elim
      | cons m M =>
        cases k with
        | zero =>
          have : m = .i x dx C fs := by simpa using hk
          subst this
          cases e with
          | l b ys => exact mi.1.elim
          | i y dy E gs =>
            obtain ⟨rfl, rfl, rfl, _⟩ := mi.1
            refine ⟨?_, ⟨f.1, f.2⟩, ?_⟩
            · show upd (upd (lay L Hf) dx (.own x)) x (.ins C dx gs') = upd (upd (upd (lay L Hf) dx (.own x)) x (.ins C dx gs)) x (.ins C dx gs')
              rw [upd_upd]
            · show upd (upd (lay L Hf) dx (.own x)) x (.ins C dx gs) x ≠ none
              rw [upd_same]; intro z; cases z
        | succ k =>
          obtain ⟨e1, e2, e3⟩ := ih (k := k) f.2 mi.2 (by simpa using hk)
          cases e with
          | l b ys =>
            have hf : lay L Hf b = none := f.1
            have hne : x ≠ b := fun q => by rw [q] at e3; exact e3 hf
            refine ⟨?_, ⟨?_, e2⟩, ?_⟩
            · show upd (lay (L.set k _) Hf) b (.lst ys) = upd (upd (lay L Hf) b (.lst ys)) x _
              rw [e1, upd_comm hne]
            · show lay (L.set k _) Hf b = none
              rw [e1, upd_ne hne.symm]; exact hf
            · show upd (lay L Hf) b (.lst ys) x ≠ none
              rw [upd_ne hne]; exact e3
          | i y dy E gs =>
            obtain ⟨hf1, hf2, hf3⟩ : lay L Hf y = none ∧ lay L Hf dy = none ∧ dy ≠ y := f.1
            have hne : x ≠ y := fun q => by rw [q] at e3; exact e3 hf1
            have hne2 : x ≠ dy := fun q => by rw [q] at e3; exact e3 hf2
            refine ⟨?_, ⟨?_, e2⟩, ?_⟩
            · show upd (upd (lay (L.set k _) Hf) dy _) y _ = upd (upd (upd (lay L Hf) dy _) y _) x _
              rw [e1, upd_comm hne2, upd_comm hne]
            · show lay (L.set k _) Hf y = none ∧ lay (L.set k _) Hf dy = none ∧ dy ≠ y
              rw [e1, upd_ne hne.symm, upd_ne hne2.symm]; exact ⟨hf1, hf2, hf3⟩
            · show upd (upd (lay L Hf) dy _) y _ x ≠ none
              rw [upd_ne hne, upd_ne hne2]; exact e3
  obtain ⟨e1, e2, _⟩ := key f mi hk
  exact ⟨_, e1.symm, e2, mi.set ⟨rfl, rfl, rfl, its⟩⟩
theorem s_fld (k : Nat) {x dx C : Addr} {fs : List (Str × VP)} {f : Str} {o v : Expr} {pos' : Pos} (hM : M[k]? = some (.i x dx C fs)) (ho : TyE X o G M (vAt x)) (hv : TyE X v G M P) (c : Cls X.K C) (n : NoAttr X.K C f) (hl : fs.length < 1000)
    (h : SOk X rest H0 G (M.set k (.i x dx C (putP f P fs))) D) (hs : swapsWith v (some (.Attribute o f pos')) pos.line X.env = pure false := by rfl) : SOk X (.Assign [.Attribute o f pos'] v pos :: rest) H0 G M D :=
  s_cons (ps_fld ho hv hs) fun t Hf H s ok m => ⟨Hf, ok, m, fun y H1f H1 s1 m1 py => ⟨H1f, ok.mono s1, m1, fun z H2f H2 s2 m2 (pz : z = .ref x) => by
    obtain ⟨gs, hx, its⟩ := m2.atI hM
    exact ⟨x, C, dx, gs, pz, hx, c, n, by rw [its.len]; exact hl, h t H2f _ ((s.trans s1).trans s2) ((ok.mono s1).mono s2) (m2.putI hM (its.put (P.m _ _ _ s2 py)))⟩⟩⟩
theorem e_fldM (k : Nat) {x dx C : Addr} {fs : List (Str × VP)} {f : Str} (hM : M[k]? = some (.i x dx C fs)) (ho : TyE X e G M (vAt x)) (c : Cls X.K C) (n : NoAttr X.K C f) (hf : fs.lookup f = some P) (hb : attributeBase e f X.env (eval e X.env) = eval e X.env := by rfl) : TyE X (.Attribute e f pos) G M P :=
  PE.imp (pe_fld ho hb) fun t H Q ⟨Hf, o, m, k⟩ => ⟨Hf, o, m, fun v Hf' H' s m' (p : v = .ref x) => by
    obtain ⟨gs, hx, its⟩ := m'.atI hM
    obtain ⟨y, hy, py⟩ := its.get hf
    exact ⟨x, C, dx, gs, y, p, hx, c, n, hy, k y Hf' H' s m' py⟩⟩
end
/-! ### defs as wholes -/
def startC (n : Nat) (Ps : List VP) : Ctx := Ps.map some ++ List.replicate (n - Ps.length) none
theorem okS_none : ∀ (n : Nat) (H : Hp), OkS (List.replicate n none) (List.replicate n none) H
  | 0, _ => trivial
  | n + 1, H => okS_none n H
theorem okS_start {N : List Str} : ∀ {Ps : List VP} {vs : List V} {H : Hp}, Items Ps vs H → OkS (startC N.length Ps) (L2.start N vs) H := by
  intro Ps vs H h
  have hl := h.len
  unfold startC L2.start
  rw [hl]
  generalize N.length - Ps.length = n
  clear hl
  induction Ps generalizing vs with
  | nil => cases vs with
    | nil => exact okS_none n H
    | cons _ _ => exact h.elim
  | cons P Ps ih => cases vs with
    | nil => exact h.elim
    | cons v vs => exact ⟨h.1, ih h.2⟩
section
variable {P : Program} {w : World} {K : PySem.W.Frag} {mg : Str → Option Value} {base : Heap} {x qual : Str} {params : Arguments} {body : List Stmt} {scope : Scope} {dvs : List V} {kws : List (Str × V)} {f : Addr} {fd : FuncData} {N ps : List Str} {k : Nat} {Ps : List VP} {R : VP} {C : Addr}
abbrev cx0 (P : Program) (w : World) (K : PySem.W.Frag) (mg : Str → Option Value) (base : Heap) (N : List Str) (qual : Str) (scope : Scope) (f : Addr) (cdv : Value) (A : Around) (outer : List Env) (s : Shared) (H : Hp) (E : XK) : Cx := (cxOf CX0 P w K mg base N qual scope f cdv A outer s H E).nox
theorem fn_V (F : FunD K x qual params body scope dvs kws f fd) (S : FnScope N ps scope) (hl : Ps.length = ps.length)
    (hb : ∀ (cdv : Value) (A : Around) (outer : List Env) (s : Shared) (H : Hp) (E : XK) (Q : VK), Room k (A.deeper (PyProof.Rows.envOfC qual scope s.heap.objs.size f cdv)) → (∀ v H', Same H H' → R.p v H' → Q v H') →
      SOk (cx0 P w K mg base N qual scope f cdv A outer s H E) body H (startC N.length Ps) [] { nx := fun _ H' => Q .non H', rt := Q }) : FnOk P w K mg base CX0 (k + 1) f fd ps (spV Ps R) :=
  FunD.ok F S (fun vs H Q E h => by rw [h.1.len, hl]) fun cdv A outer s H vs Q E hr h =>
    ⟨_, PSs.nox go_pss, hb cdv A outer s H E Q hr h.2 _ H H (Same.refl H) (okS_start h.1) (okm_nil H)⟩
theorem fn_I (F : FunD K x qual params body scope dvs kws f fd) (S : FnScope N ps scope) (hl : Ps.length + 1 = ps.length)
    (hb : ∀ (cdv : Value) (A : Around) (outer : List Env) (s : Shared) (H H0 : Hp) (E : XK) (Q : VK) (y dx : Addr), Room k (A.deeper (PyProof.Rows.envOfC qual scope s.heap.objs.size f cdv)) → (∀ H', Same H0 H' → R.p (.ref y) H' → Q .non H') →
      SOk (cx0 P w K mg base N qual scope f cdv A outer s H E) body H0 (startC N.length (vAt y :: Ps)) [.i y dx C []] { nx := fun _ H' => Q .non H', rt := Q }) : FnOk P w K mg base CX0 (k + 1) f fd ps (spI C Ps R) :=
  FunD.ok F S (fun vs H Q E h => by
    obtain ⟨H0, y, dx, ws, rfl, _, _, _, _, its, _⟩ := h
    rw [List.length_cons, its.len, hl]) fun cdv A outer s H vs Q E hr h => by
    obtain ⟨H0, y, dx, ws, rfl, hH, hy, hdx, hne, its, q⟩ := h
    refine ⟨_, PSs.nox go_pss, hb cdv A outer s H H0 E Q y dx hr q _ H0 H (Same.refl H0) (okS_start (Ps := vAt y :: Ps) ⟨rfl, its⟩) ⟨[.i y dx C []], hH, ⟨⟨hy, hdx, hne⟩, trivial⟩, ⟨rfl, rfl, rfl, trivial⟩, trivial⟩⟩
end
end K31
set_option Elab.async false
set_option linter.all false
set_option maxRecDepth 100000
set_option maxHeartbeats 1000000
/-! K0 (printed by gen_k0.py): the text by places, the facts of the head. -/
namespace K31
open PySem PySem.Spec L2
abbrev PR := PySem.Challenge.pw_indicial_k31_whole_closures_with_first_o
abbrev ROW := PySem.Challenge.rw_indicial_k31_whole_closures_with_first_o
def top (i : Nat) : Stmt := PR.main.body.getD i (.Pass ⟨0, 0, 0, 0⟩)
abbrev st_zero : Stmt := top 10
abbrev st_one : Stmt := top 11
abbrev st_trimmed : Stmt := top 13
abbrev st_constant : Stmt := top 15
abbrev st_primitive_row : Stmt := top 17
abbrev st_integer_rest : Stmt := top 18
abbrev st_common_divisor : Stmt := top 19
abbrev st_of_poly : Stmt := top 22
abbrev st_of_ratio : Stmt := top 23
abbrev st_add_rows : Stmt := top 25
abbrev st_scale_row : Stmt := top 26
abbrev st_advance_row : Stmt := top 27
abbrev st_multiply_rows : Stmt := top 28
abbrev st_of_function : Stmt := top 30
abbrev st_monomial : Stmt := top 31
abbrev st_first_order : Stmt := top 32
abbrev st_euclid : Stmt := top 34
abbrev st_left_multiple : Stmt := top 35
abbrev st_quotient : Stmt := top 36
abbrev st_tail : Stmt := top 39
abbrev st_raised : Stmt := top 40
abbrev st_change_of_product : Stmt := top 41
abbrev st_unit : Stmt := top 42
abbrev st_check : Stmt := top 43
abbrev st_of_sum : Stmt := top 44
abbrev st_of_image : Stmt := top 45
abbrev st_of_product : Stmt := top 46
abbrev st_monomials : Stmt := top 47
abbrev st_exchanged : Stmt := top 48
abbrev st_change_of_power : Stmt := top 49
abbrev st_count_monomials : Stmt := top 50
abbrev st_of_power : Stmt := top 51
abbrev st_law_state : Stmt := top 53
abbrev st_law_take : Stmt := top 54
abbrev st_law_poly : Stmt := top 55
abbrev st_law_leading : Stmt := top 56
abbrev st_law_operator : Stmt := top 57
abbrev st_law_function : Stmt := top 58
abbrev st_law_is_refused : Stmt := top 59
abbrev st_law_is_large : Stmt := top 60
abbrev st_law : Stmt := top 61
abbrev st_R_init : Stmt := inClass (top 9) 0
abbrev st_R_add : Stmt := inClass (top 9) 1
abbrev st_R_sub : Stmt := inClass (top 9) 2
abbrev st_R_mul : Stmt := inClass (top 9) 3
abbrev st_R_neg : Stmt := inClass (top 9) 4
abbrev st_R_eq : Stmt := inClass (top 9) 5
abbrev st_R_inverse : Stmt := inClass (top 9) 7
abbrev st_P_init : Stmt := inClass (top 14) 0
abbrev st_P_add : Stmt := inClass (top 14) 1
abbrev st_P_neg : Stmt := inClass (top 14) 2
abbrev st_P_sub : Stmt := inClass (top 14) 3
abbrev st_P_mul : Stmt := inClass (top 14) 4
abbrev st_P_eq : Stmt := inClass (top 14) 5
abbrev st_P_floordiv : Stmt := inClass (top 14) 6
abbrev st_P_divided : Stmt := inClass (top 14) 10
abbrev st_P_degree : Stmt := inClass (top 14) 11
abbrev st_P_is_zero : Stmt := inClass (top 14) 12
abbrev st_P_last : Stmt := inClass (top 14) 13
abbrev st_P_scaled : Stmt := inClass (top 14) 16
abbrev st_P_monic : Stmt := inClass (top 14) 18
abbrev st_P_derivative : Stmt := inClass (top 14) 19
abbrev st_P_primitive : Stmt := inClass (top 14) 23
abbrev st_F_init : Stmt := inClass (top 21) 0
abbrev st_F_eq : Stmt := inClass (top 21) 1
abbrev st_F_add : Stmt := inClass (top 21) 2
abbrev st_F_sub : Stmt := inClass (top 21) 3
abbrev st_F_mul : Stmt := inClass (top 21) 4
abbrev st_F_neg : Stmt := inClass (top 21) 5
abbrev st_F_floordiv : Stmt := inClass (top 21) 6
abbrev st_F_is_zero : Stmt := inClass (top 21) 8
abbrev st_F_derivative : Stmt := inClass (top 21) 11
abbrev st_F_inverse : Stmt := inClass (top 21) 13
abbrev st_O_init : Stmt := inClass (top 29) 0
abbrev st_O_eq : Stmt := inClass (top 29) 1
abbrev st_O_getitem : Stmt := inClass (top 29) 4
abbrev st_O_add : Stmt := inClass (top 29) 5
abbrev st_O_neg : Stmt := inClass (top 29) 6
abbrev st_O_sub : Stmt := inClass (top 29) 7
abbrev st_O_mul : Stmt := inClass (top 29) 8
abbrev st_O_order : Stmt := inClass (top 29) 10
abbrev st_O_is_zero : Stmt := inClass (top 29) 11
abbrev st_O_leading : Stmt := inClass (top 29) 12
abbrev st_O_monic : Stmt := inClass (top 29) 13
abbrev st_O_scaled : Stmt := inClass (top 29) 14
abbrev st_O_after : Stmt := inClass (top 29) 15
abbrev st_O_divide : Stmt := inClass (top 29) 17
abbrev st_O_moved : Stmt := inClass (top 29) 19
abbrev st_L_init : Stmt := inClass (top 38) 0
abbrev st_L_insert : Stmt := inClass (top 38) 1
abbrev st_E_init : Stmt := inClass (top 5) 0
def dd_zero : He.DefD := ⟨("zero", none), "zero", "zero", defArgs st_zero, defBody st_zero, defScope st_zero, [], []⟩
def dd_one : He.DefD := ⟨("one", none), "one", "one", defArgs st_one, defBody st_one, defScope st_one, [], []⟩
def dd_trimmed : He.DefD := ⟨("_trimmed", none), "_trimmed", "_trimmed", defArgs st_trimmed, defBody st_trimmed, defScope st_trimmed, [], []⟩
def dd_constant : He.DefD := ⟨("constant", none), "constant", "constant", defArgs st_constant, defBody st_constant, defScope st_constant, [], []⟩
def dd_primitive_row : He.DefD := ⟨("_primitive_row", none), "_primitive_row", "_primitive_row", defArgs st_primitive_row, defBody st_primitive_row, defScope st_primitive_row, [], []⟩
def dd_integer_rest : He.DefD := ⟨("_integer_rest", none), "_integer_rest", "_integer_rest", defArgs st_integer_rest, defBody st_integer_rest, defScope st_integer_rest, [], []⟩
def dd_common_divisor : He.DefD := ⟨("common_divisor", none), "common_divisor", "common_divisor", defArgs st_common_divisor, defBody st_common_divisor, defScope st_common_divisor, [], []⟩
def dd_of_poly : He.DefD := ⟨("of_poly", none), "of_poly", "of_poly", defArgs st_of_poly, defBody st_of_poly, defScope st_of_poly, [], []⟩
def dd_of_ratio : He.DefD := ⟨("of_ratio", none), "of_ratio", "of_ratio", defArgs st_of_ratio, defBody st_of_ratio, defScope st_of_ratio, [], []⟩
def dd_add_rows : He.DefD := ⟨("add_rows", none), "add_rows", "add_rows", defArgs st_add_rows, defBody st_add_rows, defScope st_add_rows, [], []⟩
def dd_scale_row : He.DefD := ⟨("scale_row", none), "scale_row", "scale_row", defArgs st_scale_row, defBody st_scale_row, defScope st_scale_row, [], []⟩
def dd_advance_row : He.DefD := ⟨("advance_row", none), "advance_row", "advance_row", defArgs st_advance_row, defBody st_advance_row, defScope st_advance_row, [], []⟩
def dd_multiply_rows : He.DefD := ⟨("multiply_rows", none), "multiply_rows", "multiply_rows", defArgs st_multiply_rows, defBody st_multiply_rows, defScope st_multiply_rows, [], []⟩
def dd_of_function : He.DefD := ⟨("of_function", none), "of_function", "of_function", defArgs st_of_function, defBody st_of_function, defScope st_of_function, [], []⟩
def dd_monomial : He.DefD := ⟨("monomial", none), "monomial", "monomial", defArgs st_monomial, defBody st_monomial, defScope st_monomial, [], []⟩
def dd_first_order : He.DefD := ⟨("first_order", none), "first_order", "first_order", defArgs st_first_order, defBody st_first_order, defScope st_first_order, [], []⟩
def dd_euclid : He.DefD := ⟨("euclid", none), "euclid", "euclid", defArgs st_euclid, defBody st_euclid, defScope st_euclid, [], []⟩
def dd_left_multiple : He.DefD := ⟨("left_multiple", none), "left_multiple", "left_multiple", defArgs st_left_multiple, defBody st_left_multiple, defScope st_left_multiple, [], []⟩
def dd_quotient : He.DefD := ⟨("quotient", none), "quotient", "quotient", defArgs st_quotient, defBody st_quotient, defScope st_quotient, [], []⟩
def dd_tail : He.DefD := ⟨("tail", none), "tail", "tail", defArgs st_tail, defBody st_tail, defScope st_tail, [], []⟩
def dd_raised : He.DefD := ⟨("raised", none), "raised", "raised", defArgs st_raised, defBody st_raised, defScope st_raised, [], []⟩
def dd_change_of_product : He.DefD := ⟨("change_of_product", none), "change_of_product", "change_of_product", defArgs st_change_of_product, defBody st_change_of_product, defScope st_change_of_product, [], []⟩
def dd_unit : He.DefD := ⟨("unit", none), "unit", "unit", defArgs st_unit, defBody st_unit, defScope st_unit, [], []⟩
def dd_check : He.DefD := ⟨("check", none), "check", "check", defArgs st_check, defBody st_check, defScope st_check, [], []⟩
def dd_of_sum : He.DefD := ⟨("of_sum", none), "of_sum", "of_sum", defArgs st_of_sum, defBody st_of_sum, defScope st_of_sum, [], []⟩
def dd_of_image : He.DefD := ⟨("of_image", none), "of_image", "of_image", defArgs st_of_image, defBody st_of_image, defScope st_of_image, [], []⟩
def dd_of_product : He.DefD := ⟨("of_product", none), "of_product", "of_product", defArgs st_of_product, defBody st_of_product, defScope st_of_product, [], []⟩
def dd_monomials : He.DefD := ⟨("monomials", none), "monomials", "monomials", defArgs st_monomials, defBody st_monomials, defScope st_monomials, [], []⟩
def dd_exchanged : He.DefD := ⟨("exchanged", none), "exchanged", "exchanged", defArgs st_exchanged, defBody st_exchanged, defScope st_exchanged, [], []⟩
def dd_change_of_power : He.DefD := ⟨("change_of_power", none), "change_of_power", "change_of_power", defArgs st_change_of_power, defBody st_change_of_power, defScope st_change_of_power, [], []⟩
def dd_count_monomials : He.DefD := ⟨("count_monomials", none), "count_monomials", "count_monomials", defArgs st_count_monomials, defBody st_count_monomials, defScope st_count_monomials, [], []⟩
def dd_of_power : He.DefD := ⟨("of_power", none), "of_power", "of_power", defArgs st_of_power, defBody st_of_power, defScope st_of_power, [], [("most", .int 60)]⟩
def dd_law_state : He.DefD := ⟨("_law_state", none), "_law_state", "_law_state", defArgs st_law_state, defBody st_law_state, defScope st_law_state, [], []⟩
def dd_law_take : He.DefD := ⟨("_law_take", none), "_law_take", "_law_take", defArgs st_law_take, defBody st_law_take, defScope st_law_take, [], []⟩
def dd_law_poly : He.DefD := ⟨("_law_poly", none), "_law_poly", "_law_poly", defArgs st_law_poly, defBody st_law_poly, defScope st_law_poly, [], []⟩
def dd_law_leading : He.DefD := ⟨("_law_leading", none), "_law_leading", "_law_leading", defArgs st_law_leading, defBody st_law_leading, defScope st_law_leading, [], []⟩
def dd_law_operator : He.DefD := ⟨("_law_operator", none), "_law_operator", "_law_operator", defArgs st_law_operator, defBody st_law_operator, defScope st_law_operator, [], []⟩
def dd_law_function : He.DefD := ⟨("_law_function", none), "_law_function", "_law_function", defArgs st_law_function, defBody st_law_function, defScope st_law_function, [], []⟩
def dd_law_is_refused : He.DefD := ⟨("_law_is_refused", none), "_law_is_refused", "_law_is_refused", defArgs st_law_is_refused, defBody st_law_is_refused, defScope st_law_is_refused, [], []⟩
def dd_law_is_large : He.DefD := ⟨("_law_is_large", none), "_law_is_large", "_law_is_large", defArgs st_law_is_large, defBody st_law_is_large, defScope st_law_is_large, [], []⟩
def dd_law : He.DefD := ⟨("law", none), "law", "law", defArgs st_law, defBody st_law, defScope st_law, [], []⟩
def dd_R_init : He.DefD := ⟨("Ratio", some "__init__"), "__init__", "Ratio.__init__", defArgs st_R_init, defBody st_R_init, defScope st_R_init, [.int 1], []⟩
def dd_R_add : He.DefD := ⟨("Ratio", some "__add__"), "__add__", "Ratio.__add__", defArgs st_R_add, defBody st_R_add, defScope st_R_add, [], []⟩
def dd_R_sub : He.DefD := ⟨("Ratio", some "__sub__"), "__sub__", "Ratio.__sub__", defArgs st_R_sub, defBody st_R_sub, defScope st_R_sub, [], []⟩
def dd_R_mul : He.DefD := ⟨("Ratio", some "__mul__"), "__mul__", "Ratio.__mul__", defArgs st_R_mul, defBody st_R_mul, defScope st_R_mul, [], []⟩
def dd_R_neg : He.DefD := ⟨("Ratio", some "__neg__"), "__neg__", "Ratio.__neg__", defArgs st_R_neg, defBody st_R_neg, defScope st_R_neg, [], []⟩
def dd_R_eq : He.DefD := ⟨("Ratio", some "__eq__"), "__eq__", "Ratio.__eq__", defArgs st_R_eq, defBody st_R_eq, defScope st_R_eq, [], []⟩
def dd_R_inverse : He.DefD := ⟨("Ratio", some "inverse"), "inverse", "Ratio.inverse", defArgs st_R_inverse, defBody st_R_inverse, defScope st_R_inverse, [], []⟩
def dd_P_init : He.DefD := ⟨("Poly", some "__init__"), "__init__", "Poly.__init__", defArgs st_P_init, defBody st_P_init, defScope st_P_init, [], []⟩
def dd_P_add : He.DefD := ⟨("Poly", some "__add__"), "__add__", "Poly.__add__", defArgs st_P_add, defBody st_P_add, defScope st_P_add, [], []⟩
def dd_P_neg : He.DefD := ⟨("Poly", some "__neg__"), "__neg__", "Poly.__neg__", defArgs st_P_neg, defBody st_P_neg, defScope st_P_neg, [], []⟩
def dd_P_sub : He.DefD := ⟨("Poly", some "__sub__"), "__sub__", "Poly.__sub__", defArgs st_P_sub, defBody st_P_sub, defScope st_P_sub, [], []⟩
def dd_P_mul : He.DefD := ⟨("Poly", some "__mul__"), "__mul__", "Poly.__mul__", defArgs st_P_mul, defBody st_P_mul, defScope st_P_mul, [], []⟩
def dd_P_eq : He.DefD := ⟨("Poly", some "__eq__"), "__eq__", "Poly.__eq__", defArgs st_P_eq, defBody st_P_eq, defScope st_P_eq, [], []⟩
def dd_P_floordiv : He.DefD := ⟨("Poly", some "__floordiv__"), "__floordiv__", "Poly.__floordiv__", defArgs st_P_floordiv, defBody st_P_floordiv, defScope st_P_floordiv, [], []⟩
def dd_P_divided : He.DefD := ⟨("Poly", some "divided"), "divided", "Poly.divided", defArgs st_P_divided, defBody st_P_divided, defScope st_P_divided, [], []⟩
def dd_P_degree : He.DefD := ⟨("Poly", some "degree"), "degree", "Poly.degree", defArgs st_P_degree, defBody st_P_degree, defScope st_P_degree, [], []⟩
def dd_P_is_zero : He.DefD := ⟨("Poly", some "is_zero"), "is_zero", "Poly.is_zero", defArgs st_P_is_zero, defBody st_P_is_zero, defScope st_P_is_zero, [], []⟩
def dd_P_last : He.DefD := ⟨("Poly", some "last"), "last", "Poly.last", defArgs st_P_last, defBody st_P_last, defScope st_P_last, [], []⟩
def dd_P_scaled : He.DefD := ⟨("Poly", some "scaled"), "scaled", "Poly.scaled", defArgs st_P_scaled, defBody st_P_scaled, defScope st_P_scaled, [], []⟩
def dd_P_monic : He.DefD := ⟨("Poly", some "monic"), "monic", "Poly.monic", defArgs st_P_monic, defBody st_P_monic, defScope st_P_monic, [], []⟩
def dd_P_derivative : He.DefD := ⟨("Poly", some "derivative"), "derivative", "Poly.derivative", defArgs st_P_derivative, defBody st_P_derivative, defScope st_P_derivative, [], []⟩
def dd_P_primitive : He.DefD := ⟨("Poly", some "primitive"), "primitive", "Poly.primitive", defArgs st_P_primitive, defBody st_P_primitive, defScope st_P_primitive, [], []⟩
def dd_F_init : He.DefD := ⟨("RatFun", some "__init__"), "__init__", "RatFun.__init__", defArgs st_F_init, defBody st_F_init, defScope st_F_init, [], []⟩
def dd_F_eq : He.DefD := ⟨("RatFun", some "__eq__"), "__eq__", "RatFun.__eq__", defArgs st_F_eq, defBody st_F_eq, defScope st_F_eq, [], []⟩
def dd_F_add : He.DefD := ⟨("RatFun", some "__add__"), "__add__", "RatFun.__add__", defArgs st_F_add, defBody st_F_add, defScope st_F_add, [], []⟩
def dd_F_sub : He.DefD := ⟨("RatFun", some "__sub__"), "__sub__", "RatFun.__sub__", defArgs st_F_sub, defBody st_F_sub, defScope st_F_sub, [], []⟩
def dd_F_mul : He.DefD := ⟨("RatFun", some "__mul__"), "__mul__", "RatFun.__mul__", defArgs st_F_mul, defBody st_F_mul, defScope st_F_mul, [], []⟩
def dd_F_neg : He.DefD := ⟨("RatFun", some "__neg__"), "__neg__", "RatFun.__neg__", defArgs st_F_neg, defBody st_F_neg, defScope st_F_neg, [], []⟩
def dd_F_floordiv : He.DefD := ⟨("RatFun", some "__floordiv__"), "__floordiv__", "RatFun.__floordiv__", defArgs st_F_floordiv, defBody st_F_floordiv, defScope st_F_floordiv, [], []⟩
def dd_F_is_zero : He.DefD := ⟨("RatFun", some "is_zero"), "is_zero", "RatFun.is_zero", defArgs st_F_is_zero, defBody st_F_is_zero, defScope st_F_is_zero, [], []⟩
def dd_F_derivative : He.DefD := ⟨("RatFun", some "derivative"), "derivative", "RatFun.derivative", defArgs st_F_derivative, defBody st_F_derivative, defScope st_F_derivative, [], []⟩
def dd_F_inverse : He.DefD := ⟨("RatFun", some "inverse"), "inverse", "RatFun.inverse", defArgs st_F_inverse, defBody st_F_inverse, defScope st_F_inverse, [], []⟩
def dd_O_init : He.DefD := ⟨("Operator", some "__init__"), "__init__", "Operator.__init__", defArgs st_O_init, defBody st_O_init, defScope st_O_init, [], []⟩
def dd_O_eq : He.DefD := ⟨("Operator", some "__eq__"), "__eq__", "Operator.__eq__", defArgs st_O_eq, defBody st_O_eq, defScope st_O_eq, [], []⟩
def dd_O_getitem : He.DefD := ⟨("Operator", some "__getitem__"), "__getitem__", "Operator.__getitem__", defArgs st_O_getitem, defBody st_O_getitem, defScope st_O_getitem, [], []⟩
def dd_O_add : He.DefD := ⟨("Operator", some "__add__"), "__add__", "Operator.__add__", defArgs st_O_add, defBody st_O_add, defScope st_O_add, [], []⟩
def dd_O_neg : He.DefD := ⟨("Operator", some "__neg__"), "__neg__", "Operator.__neg__", defArgs st_O_neg, defBody st_O_neg, defScope st_O_neg, [], []⟩
def dd_O_sub : He.DefD := ⟨("Operator", some "__sub__"), "__sub__", "Operator.__sub__", defArgs st_O_sub, defBody st_O_sub, defScope st_O_sub, [], []⟩
def dd_O_mul : He.DefD := ⟨("Operator", some "__mul__"), "__mul__", "Operator.__mul__", defArgs st_O_mul, defBody st_O_mul, defScope st_O_mul, [], []⟩
def dd_O_order : He.DefD := ⟨("Operator", some "order"), "order", "Operator.order", defArgs st_O_order, defBody st_O_order, defScope st_O_order, [], []⟩
def dd_O_is_zero : He.DefD := ⟨("Operator", some "is_zero"), "is_zero", "Operator.is_zero", defArgs st_O_is_zero, defBody st_O_is_zero, defScope st_O_is_zero, [], []⟩
def dd_O_leading : He.DefD := ⟨("Operator", some "leading"), "leading", "Operator.leading", defArgs st_O_leading, defBody st_O_leading, defScope st_O_leading, [], []⟩
def dd_O_monic : He.DefD := ⟨("Operator", some "monic"), "monic", "Operator.monic", defArgs st_O_monic, defBody st_O_monic, defScope st_O_monic, [], []⟩
def dd_O_scaled : He.DefD := ⟨("Operator", some "scaled"), "scaled", "Operator.scaled", defArgs st_O_scaled, defBody st_O_scaled, defScope st_O_scaled, [], []⟩
def dd_O_after : He.DefD := ⟨("Operator", some "after"), "after", "Operator.after", defArgs st_O_after, defBody st_O_after, defScope st_O_after, [], []⟩
def dd_O_divide : He.DefD := ⟨("Operator", some "divide"), "divide", "Operator.divide", defArgs st_O_divide, defBody st_O_divide, defScope st_O_divide, [], []⟩
def dd_O_moved : He.DefD := ⟨("Operator", some "moved"), "moved", "Operator.moved", defArgs st_O_moved, defBody st_O_moved, defScope st_O_moved, [], []⟩
def dd_L_init : He.DefD := ⟨("Relation", some "__init__"), "__init__", "Relation.__init__", defArgs st_L_init, defBody st_L_init, defScope st_L_init, [], []⟩
def dd_L_insert : He.DefD := ⟨("Relation", some "insert"), "insert", "Relation.insert", defArgs st_L_insert, defBody st_L_insert, defScope st_L_insert, [], []⟩
def fn1 : List He.DefD := [dd_zero, dd_one, dd_trimmed, dd_constant, dd_primitive_row, dd_integer_rest, dd_common_divisor, dd_of_poly, dd_of_ratio, dd_add_rows, dd_scale_row, dd_advance_row, dd_multiply_rows, dd_of_function, dd_monomial, dd_first_order, dd_euclid, dd_left_multiple, dd_quotient, dd_tail, dd_raised, dd_change_of_product, dd_unit, dd_check, dd_of_sum, dd_of_image, dd_of_product, dd_monomials, dd_exchanged, dd_change_of_power, dd_count_monomials, dd_of_power, dd_law_state, dd_law_take, dd_law_poly, dd_law_leading, dd_law_operator, dd_law_function, dd_law_is_refused, dd_law_is_large, dd_law, dd_R_init, dd_R_add, dd_R_sub, dd_R_mul]
def fn2 : List He.DefD := [dd_R_neg, dd_R_eq, dd_R_inverse, dd_P_init, dd_P_add, dd_P_neg, dd_P_sub, dd_P_mul, dd_P_eq, dd_P_floordiv, dd_P_divided, dd_P_degree, dd_P_is_zero, dd_P_last, dd_P_scaled, dd_P_monic, dd_P_derivative, dd_P_primitive, dd_F_init, dd_F_eq, dd_F_add, dd_F_sub, dd_F_mul, dd_F_neg, dd_F_floordiv, dd_F_is_zero, dd_F_derivative, dd_F_inverse, dd_O_init, dd_O_eq, dd_O_getitem, dd_O_add, dd_O_neg, dd_O_sub, dd_O_mul, dd_O_order, dd_O_is_zero, dd_O_leading, dd_O_monic, dd_O_scaled, dd_O_after, dd_O_divide, dd_O_moved, dd_L_init, dd_L_insert]
def fn : List He.DefD := fn1 ++ fn2
def fa1 : List He.Fa := [.glo "zero", .glo "one", .glo "_trimmed", .glo "constant", .glo "_primitive_row", .glo "_integer_rest", .glo "common_divisor", .glo "of_poly", .glo "of_ratio", .glo "add_rows", .glo "scale_row", .glo "advance_row", .glo "multiply_rows", .glo "of_function", .glo "monomial", .glo "first_order", .glo "euclid", .glo "left_multiple", .glo "quotient", .glo "tail", .glo "raised", .glo "change_of_product", .glo "unit", .glo "check", .glo "of_sum", .glo "of_image", .glo "of_product", .glo "monomials", .glo "exchanged", .glo "change_of_power"]
def fa2 : List He.Fa := [.glo "count_monomials", .glo "of_power", .glo "_law_state", .glo "_law_take", .glo "_law_poly", .glo "_law_leading", .glo "_law_operator", .glo "_law_function", .glo "_law_is_refused", .glo "_law_is_large", .glo "law", .glo "Ratio", .glo "Poly", .glo "RatFun", .glo "Operator", .glo "Relation", .glo "Fault", .glo "ZeroDivisor", .glo "Refused", .free "len", .free "isinstance", .free "int", .free "tuple", .free "list", .free "zip", .free "enumerate", .free "range", .free "max", .free "abs", .free "super"]
def fa3 : List He.Fa := [.free "ValueError", .cls "Ratio", .cls "Poly", .cls "RatFun", .cls "Operator", .cls "Relation", .mkr "Ratio", .mkr "Poly", .mkr "RatFun", .mkr "Operator", .mkr "Relation", .noat "Ratio" "n", .noat "Ratio" "d", .noat "Poly" "row", .noat "RatFun" "num", .noat "RatFun" "den", .noat "Operator" "coefficients", .noat "Relation" "width", .noat "Relation" "count", .noat "Relation" "rows", .meth "Ratio" "__add__", .meth "Ratio" "__sub__", .meth "Ratio" "__mul__", .meth "Ratio" "__neg__", .meth "Ratio" "__eq__", .meth "Ratio" "inverse", .meth "Poly" "__add__", .meth "Poly" "__neg__", .meth "Poly" "__sub__", .meth "Poly" "__mul__"]
def fa4 : List He.Fa := [.meth "Poly" "__eq__", .meth "Poly" "__floordiv__", .meth "Poly" "divided", .meth "Poly" "degree", .meth "Poly" "is_zero", .meth "Poly" "last", .meth "Poly" "scaled", .meth "Poly" "monic", .meth "Poly" "derivative", .meth "Poly" "primitive", .meth "RatFun" "__eq__", .meth "RatFun" "__add__", .meth "RatFun" "__sub__", .meth "RatFun" "__mul__", .meth "RatFun" "__neg__", .meth "RatFun" "__floordiv__", .meth "RatFun" "is_zero", .meth "RatFun" "derivative", .meth "RatFun" "inverse", .meth "Operator" "__eq__", .meth "Operator" "__getitem__", .meth "Operator" "__add__", .meth "Operator" "__neg__", .meth "Operator" "__sub__", .meth "Operator" "__mul__", .meth "Operator" "order", .meth "Operator" "is_zero", .meth "Operator" "leading", .meth "Operator" "monic", .meth "Operator" "scaled"]
def fa5 : List He.Fa := [.meth "Operator" "after", .meth "Operator" "divide", .meth "Operator" "moved", .meth "Relation" "insert", .exc "ZeroDivisor", .exm "ZeroDivisor" "ZeroDivisor" true, .exm "ZeroDivisor" "Fault" true, .exm "Refused" "Fault" true, .keep "Refused"]
def fa : List He.Fa := fa1 ++ (fa2 ++ (fa3 ++ (fa4 ++ (fa5))))
/-! own look: the globals, the classes' names, the methods, the code objects -/
def refs1 (g : Addr → Option Obj) (a : Addr) : List Addr := match g a with
  | some ⟨_, _, .dict es _, _⟩ => es.toList.flatMap fun e => He.refV e.val
  | some ⟨_, _, .cls cd, _⟩ => [cd.ns]
  | some ⟨_, _, .func fd, _⟩ => He.refV fd.code ++ (He.refV fd.defaults ++ He.refV fd.kwdefaults)
  | _ => []
def asM (g : Addr → Option Obj) : List Addr :=
  let l1 := refs1 g mainGlobals
  let l2 := l1.flatMap fun a => match g a with
    | some ⟨_, _, .cls cd, _⟩ => [cd.ns]
    | _ => []
  let l3 := l2.flatMap (refs1 g)
  let l4 := (l1 ++ l3).flatMap fun a => match g a with
    | some ⟨_, _, .func fd, _⟩ => He.refV fd.code ++ (He.refV fd.defaults ++ He.refV fd.kwdefaults)
    | _ => []
  let l5 := l3.flatMap fun a => match g a with
    | some ⟨_, _, .func fd, _⟩ => fd.closure.map (·.2)
    | _ => []
  mainGlobals :: cStatics :: sysModules :: (l1 ++ (l2 ++ (l3 ++ (l4 ++ l5))))
/-- Refused.__init__: its function object -/
abbrev RfV : Type := Option (Str × Str × Arguments × FuncBody × Scope × Addr × List Str × Value × Addr)
def rfObs (K : PySem.W.Frag) : RfV := match K.lookup (He.fAd K ("Refused", some "__init__")) with
  | some ⟨_, _, .func fd, _⟩ => some (fd.name, fd.qualname, fd.params, fd.body, fd.scope, fd.globals, fd.closure.map (·.1), fd.defaults, fd.builtins)
  | _ => none
def rfVal : RfV := some ("__init__", "Refused.__init__", defArgs st_E_init, .stmts (defBody st_E_init), defScope st_E_init, mainGlobals, ["__class__"], .none, builtinsNs)
abbrev AlM : Type := He.AlD × Bool × RfV
def obsM (ex : PySem.W.Frag → Bool) (g : Addr → Option Obj) : AlM := (He.obsD fa fn (He.frG g (asM g)), ex (He.frG g (asM g)), rfObs (He.frG g (asM g)))
def hookM (ex : PySem.W.Frag → Bool) : PySem.W.Hook where
  α := AlM
  obs := fun s => obsM ex s.heap.get?
  val := fun _ => (He.valD fn, true, rfVal)
  says := fun _ h => ∃ K : PySem.W.Frag, K.In h ∧ He.SaysD fa fn K ∧ ex K = true ∧ rfObs K = rfVal
  of := fun _ _ e => ⟨_, He.frG_in, congrArg Prod.fst e, congrArg (fun z => z.2.1) e, congrArg (fun z => z.2.2) e⟩
  keeps := fun _ _ _ ⟨K, hK, c⟩ k => ⟨K, PySem.W.Frag.In.keeps hK k, c⟩
def isBlt (K : PySem.W.Frag) (x : Str) (id : String) : Bool := match PySem.W.nsIn K mainGlobals x with
  | some (some (.builtin j)) => decide (j = id)
  | _ => false
def insB (K : PySem.W.Frag) (C : Addr) : Bool := decide (PySem.W.findIn K (.ref C) "__class__" = some (some (.builtin "object.__class__"))) && (decide (PySem.W.mroIn K C (.type "object") = some true) && decide (PySem.W.kitOne K (.ref C) (.ref C) = some true))
def nsNo (K : PySem.W.Frag) (a : Addr) (x : Str) : Bool := match PySem.W.nsIn K a x with
  | some none => true
  | _ => false
def strK (K : PySem.W.Frag) (a : Addr) : Bool := match K.lookup a with
  | some ⟨_, _, .dict es _, _⟩ => es.toList.all fun e => match e.key with
    | .str _ _ => true
    | _ => false
  | _ => false
def modB (K : PySem.W.Frag) : Bool := match PySem.W.nsIn K mainGlobals "__builtins__" with
  | some (some (.ref bm)) => (match K.lookup bm with
    | some o => decide (o.cls = .type "module") && decide (o.dict = some builtinsNs)
    | none => false)
  | _ => false
def seerB (K : PySem.W.Frag) : Bool := nsNo K cStatics "sys.audit-hooks" && (nsNo K cStatics "sys.dict" && (nsNo K sysModules "_pylong" && (strK K sysModules && modB K)))
theorem nsNo_of {K : PySem.W.Frag} {h : Heap} {a : Addr} {m : Str → Option Value} {x : Str} (X : K.In h) (G : h.Ns a m) (e : nsNo K a x = true) : m x = none := by
  have e' : PySem.W.nsIn K a x = some none := by
    unfold nsNo at e
    split at e
    · rename_i q; exact q
    · cases e
  clear e
  obtain ⟨o, es, ep, ho, hd, _, hf⟩ := G
  unfold PySem.W.nsIn at e'
  split at e'
  · rename_i c d es' n' sl q
    have := X _ _ q
    rw [ho] at this
    cases this
    cases hd
    split at e'
    · cases e'
    · rename_i he
      rw [← hf]
      unfold nsFind findBy
      rw [← Array.find?_toList, he]
      rfl
  · cases e'
theorem seer_ok {K : PySem.W.Frag} {mg : Str → Option Value} {base : Heap} (M : Mod K mg base) (e : seerB K = true) : base.NoSeer := by
  unfold seerB at e
  obtain ⟨h1, e⟩ := Bool.and_eq_true_iff.mp e
  obtain ⟨h2, e⟩ := Bool.and_eq_true_iff.mp e
  obtain ⟨h3, e⟩ := Bool.and_eq_true_iff.mp e
  obtain ⟨h4, h5⟩ := Bool.and_eq_true_iff.mp e
  obtain ⟨mc, c1, c2⟩ := M.nolimit
  refine ⟨⟨mc, c1, nsNo_of M.kin c1 h1, nsNo_of M.kin c1 h2⟩, ?_, M.blt, ?_⟩
  · unfold strK at h4
    split at h4
    · rename_i c d es n sl q
      have hq := M.kin _ _ q
      have hns : base.Ns sysModules (nsFind es) := by
        refine ⟨_, es, n, hq, rfl, ?_, fun _ => rfl⟩
        intro en hen
        have := List.all_eq_true.mp h4 en (by simpa using hen)
        split at this
        · rename_i n t w; exact ⟨n, t, w⟩
        · cases this
      exact ⟨_, hns, nsNo_of M.kin hns h3⟩
    · cases h4
  · unfold modB at h5
    split at h5
    · rename_i bm q
      split at h5
      · rename_i o qo
        obtain ⟨a1, a2⟩ := Bool.and_eq_true_iff.mp h5
        exact ⟨mg, bm, o, M.glob, PySem.W.mg_of M.kin M.glob q, M.kin _ _ qo, of_decide_eq_true a1, of_decide_eq_true a2⟩
      · cases h5
    · cases h5
/-- Refused: the class, its __init__'s code and cell -/
def codB (K : PySem.W.Frag) (fI C : Addr) : Bool := match K.lookup fI with
  | some ⟨_, _, .func fd, _⟩ => PySem.W.codeIn K fd.code "Refused.__init__" && ((match fd.code with
    | .ref c => (match K.lookup c with
      | some ⟨_, _, .fields vs, _⟩ => (match (vs[2]? : Option Value) with
        | some (Value.str file _) => decide (PR.main.file = file)
        | _ => false)
      | _ => false)
    | _ => false) && (match fd.closure with
    | [(_, cc)] => (match K.lookup cc with
      | some ⟨_, _, .cell (some (.ref D)), _⟩ => decide (D = C)
      | _ => false)
    | _ => false))
  | _ => false
def clsB (K : PySem.W.Frag) (C : Addr) : Bool := match K.lookup C with
  | some ⟨.type "type", _, .cls cd, sl⟩ => (match cd.mro, sl.toList with
    | .ref C' :: bm, [_, _, _, _, some (.builtin n), _] => decide (C' = C) && (decide (n = "ValueError.__new__") && (!cd.hasDel && (cd.hasDict && PySem.HandSPX.refsVE bm)))
    | _, _ => false)
  | _ => false
def supC (K : PySem.W.Frag) (C fI : Addr) : Bool := clsB K C && (He.eqO (PySem.W.findIn K (.ref C) "__setattr__") (some (some (.builtin "object.__setattr__"))) && (decide (PySem.W.subIn K (.ref C) (.type "BaseException") = some true) && (decide (PySem.W.typeIn K (.ref C) = some (.type "type")) && (PySem.W.keepIn K (.ref C) &&
  (He.eqO (PySem.W.findIn K (.ref C) "__init__") (some (some (.ref fI))) && (decide (PySem.W.typeIn K (.ref fI) = some (.type "function")) && (He.eqO (PySem.W.findIn K (.ref C) "reason") (some none) && (decide (PySem.W.mroIn K C (.ref C) = some true) &&
  (He.eqO (PySem.W.ks_superIn K C C "__init__") (some (some (.builtin "ValueError.__init__"))) && (He.eqO (PySem.W.nsIn K cStatics "thirdparty.any") (some none) && (decide (PySem.W.subIn K (.ref C) (.type "ValueError") = some true) && (xfB K C && (insB K C && codB K fI C)))))))))))))
def supB (K : PySem.W.Frag) : Bool := supC K (He.ga K "Refused") (He.fAd K ("Refused", some "__init__"))
/-- more that is looked at -/
def exB (K : PySem.W.Frag) : Bool := isBlt K "gcd" "math.gcd" && (isBlt K "lcm" "math.lcm" && (PySem.W.selfFirst K (He.ga K "Ratio") && (PySem.W.selfFirst K (He.ga K "Poly") && (PySem.W.selfFirst K (He.ga K "RatFun") && (PySem.W.selfFirst K (He.ga K "Operator") &&
  (insB K (He.ga K "Ratio") && (insB K (He.ga K "Poly") && (insB K (He.ga K "RatFun") && (insB K (He.ga K "Operator") &&
  (decide (PySem.W.specialIn K (.builtin "object.__class__") "__get__" = some (some (.builtin "getset_descriptor.__get__"))) && (decide (PySem.W.takesIn K (.builtin "object.__class__") = some true) && (decide (PySem.W.kitOne K (.ref (He.ga K "Ratio")) (.type "int") = some false) &&
  (PySem.W.noSeq K (He.ga K "Operator") && (PySem.W.fnIn K (He.fAd K ("Operator", some "__getitem__")) && (seerB K && supB K)))))))))))))))
abbrev hk : PySem.W.Hook := hookM exB
/-- what the walk leans on -/
structure Wd (K : PySem.W.Frag) (mg : Str → Option Value) : Prop where
  says : He.SaysD fa fn K
  more : exB K = true
  rf : rfObs K = rfVal
  gl : ∀ {x : Str}, (He.Fa.glo x).ok K = true → mg x = some (.ref (He.ga K x))
  fr : ∀ {x : Str}, (He.Fa.free x).ok K = true → mg x = none
  blt : ∀ {x : Str} {id : String}, isBlt K x id = true → mg x = some (.builtin id)
section
variable {K : PySem.W.Frag} {mg : Str → Option Value}
theorem Wd.of {h : Heap} (X : K.In h) (G : h.Ns mainGlobals mg) (c : He.SaysD fa fn K) (e : exB K = true) (r : rfObs K = rfVal) : Wd K mg where
  says := c
  more := e
  rf := r
  gl := He.glo_ok X G
  fr := He.free_ok X G
  blt := fun {x id} h => by
    unfold isBlt at h
    cases q : PySem.W.nsIn K mainGlobals x with
    | none => rw [q] at h; cases h
    | some o =>
      rw [q] at h
      cases o with
      | none => cases h
      | some v => cases v with
        | builtin j =>
          have ej : j = id := of_decide_eq_true h
          rw [ej] at q
          exact PySem.W.mg_of X G q
        | _ => cases h
theorem bd {a b : Bool} (h : (a && b) = true) : a = true ∧ b = true := Bool.and_eq_true_iff.mp h
structure Ins (K : PySem.W.Frag) (C : Addr) : Prop where
  ha : PySem.W.findIn K (.ref C) "__class__" = some (some (.builtin "object.__class__"))
  hm : PySem.W.mroIn K C (.type "object") = some true
  me : PySem.W.kitOne K (.ref C) (.ref C) = some true
theorem ins_of {C : Addr} (h : insB K C = true) : Ins K C := by
  obtain ⟨h1, h2⟩ := bd h
  obtain ⟨h3, h4⟩ := bd h2
  exact ⟨of_decide_eq_true h1, of_decide_eq_true h3, of_decide_eq_true h4⟩
structure More (K : PySem.W.Frag) (mg : Str → Option Value) : Prop where
  gcd : mg "gcd" = some (.builtin "math.gcd")
  lcm : mg "lcm" = some (.builtin "math.lcm")
  sR : PySem.W.selfFirst K (He.ga K "Ratio") = true
  sP : PySem.W.selfFirst K (He.ga K "Poly") = true
  sF : PySem.W.selfFirst K (He.ga K "RatFun") = true
  sO : PySem.W.selfFirst K (He.ga K "Operator") = true
  iR : Ins K (He.ga K "Ratio")
  iP : Ins K (He.ga K "Poly")
  iF : Ins K (He.ga K "RatFun")
  iO : Ins K (He.ga K "Operator")
  hn : PySem.W.specialIn K (.builtin "object.__class__") "__get__" = some (some (.builtin "getset_descriptor.__get__"))
  htk : PySem.W.takesIn K (.builtin "object.__class__") = some true
  nR : PySem.W.kitOne K (.ref (He.ga K "Ratio")) (.type "int") = some false
  qO : PySem.W.noSeq K (He.ga K "Operator") = true
  fO : PySem.W.fnIn K (He.fAd K ("Operator", some "__getitem__")) = true
  seer : seerB K = true
  sup : supB K = true
theorem Wd.m (W : Wd K mg) : More K mg := by
  obtain ⟨h1, h⟩ := bd W.more
  obtain ⟨h2, h⟩ := bd h
  obtain ⟨h3, h⟩ := bd h
  obtain ⟨h4, h⟩ := bd h
  obtain ⟨h5, h⟩ := bd h
  obtain ⟨h6, h⟩ := bd h
  obtain ⟨h7, h⟩ := bd h
  obtain ⟨h8, h⟩ := bd h
  obtain ⟨h9, h⟩ := bd h
  obtain ⟨h10, h⟩ := bd h
  obtain ⟨h11, h⟩ := bd h
  obtain ⟨h12, h⟩ := bd h
  obtain ⟨h13, h⟩ := bd h
  obtain ⟨h14, h⟩ := bd h
  obtain ⟨h15, h⟩ := bd h
  obtain ⟨h16, h17⟩ := bd h
  exact ⟨W.blt h1, W.blt h2, h3, h4, h5, h6, ins_of h7, ins_of h8, ins_of h9, ins_of h10, of_decide_eq_true h11, of_decide_eq_true h12, of_decide_eq_true h13, h14, h15, h16, h17⟩

theorem Wd.gl_zero (W : Wd K mg) : mg "zero" = some (.ref (He.ga K "zero")) := W.gl (W.says.fact 0 (f := .glo "zero"))
theorem Wd.gl_one (W : Wd K mg) : mg "one" = some (.ref (He.ga K "one")) := W.gl (W.says.fact 1 (f := .glo "one"))
theorem Wd.gl_trimmed (W : Wd K mg) : mg "_trimmed" = some (.ref (He.ga K "_trimmed")) := W.gl (W.says.fact 2 (f := .glo "_trimmed"))
theorem Wd.gl_constant (W : Wd K mg) : mg "constant" = some (.ref (He.ga K "constant")) := W.gl (W.says.fact 3 (f := .glo "constant"))
theorem Wd.gl_primitive_row (W : Wd K mg) : mg "_primitive_row" = some (.ref (He.ga K "_primitive_row")) := W.gl (W.says.fact 4 (f := .glo "_primitive_row"))
theorem Wd.gl_integer_rest (W : Wd K mg) : mg "_integer_rest" = some (.ref (He.ga K "_integer_rest")) := W.gl (W.says.fact 5 (f := .glo "_integer_rest"))
theorem Wd.gl_common_divisor (W : Wd K mg) : mg "common_divisor" = some (.ref (He.ga K "common_divisor")) := W.gl (W.says.fact 6 (f := .glo "common_divisor"))
theorem Wd.gl_of_poly (W : Wd K mg) : mg "of_poly" = some (.ref (He.ga K "of_poly")) := W.gl (W.says.fact 7 (f := .glo "of_poly"))
theorem Wd.gl_of_ratio (W : Wd K mg) : mg "of_ratio" = some (.ref (He.ga K "of_ratio")) := W.gl (W.says.fact 8 (f := .glo "of_ratio"))
theorem Wd.gl_add_rows (W : Wd K mg) : mg "add_rows" = some (.ref (He.ga K "add_rows")) := W.gl (W.says.fact 9 (f := .glo "add_rows"))
theorem Wd.gl_scale_row (W : Wd K mg) : mg "scale_row" = some (.ref (He.ga K "scale_row")) := W.gl (W.says.fact 10 (f := .glo "scale_row"))
theorem Wd.gl_advance_row (W : Wd K mg) : mg "advance_row" = some (.ref (He.ga K "advance_row")) := W.gl (W.says.fact 11 (f := .glo "advance_row"))
theorem Wd.gl_multiply_rows (W : Wd K mg) : mg "multiply_rows" = some (.ref (He.ga K "multiply_rows")) := W.gl (W.says.fact 12 (f := .glo "multiply_rows"))
theorem Wd.gl_of_function (W : Wd K mg) : mg "of_function" = some (.ref (He.ga K "of_function")) := W.gl (W.says.fact 13 (f := .glo "of_function"))
theorem Wd.gl_monomial (W : Wd K mg) : mg "monomial" = some (.ref (He.ga K "monomial")) := W.gl (W.says.fact 14 (f := .glo "monomial"))
theorem Wd.gl_first_order (W : Wd K mg) : mg "first_order" = some (.ref (He.ga K "first_order")) := W.gl (W.says.fact 15 (f := .glo "first_order"))
theorem Wd.gl_euclid (W : Wd K mg) : mg "euclid" = some (.ref (He.ga K "euclid")) := W.gl (W.says.fact 16 (f := .glo "euclid"))
theorem Wd.gl_left_multiple (W : Wd K mg) : mg "left_multiple" = some (.ref (He.ga K "left_multiple")) := W.gl (W.says.fact 17 (f := .glo "left_multiple"))
theorem Wd.gl_quotient (W : Wd K mg) : mg "quotient" = some (.ref (He.ga K "quotient")) := W.gl (W.says.fact 18 (f := .glo "quotient"))
theorem Wd.gl_tail (W : Wd K mg) : mg "tail" = some (.ref (He.ga K "tail")) := W.gl (W.says.fact 19 (f := .glo "tail"))
theorem Wd.gl_raised (W : Wd K mg) : mg "raised" = some (.ref (He.ga K "raised")) := W.gl (W.says.fact 20 (f := .glo "raised"))
theorem Wd.gl_change_of_product (W : Wd K mg) : mg "change_of_product" = some (.ref (He.ga K "change_of_product")) := W.gl (W.says.fact 21 (f := .glo "change_of_product"))
theorem Wd.gl_unit (W : Wd K mg) : mg "unit" = some (.ref (He.ga K "unit")) := W.gl (W.says.fact 22 (f := .glo "unit"))
theorem Wd.gl_check (W : Wd K mg) : mg "check" = some (.ref (He.ga K "check")) := W.gl (W.says.fact 23 (f := .glo "check"))
theorem Wd.gl_of_sum (W : Wd K mg) : mg "of_sum" = some (.ref (He.ga K "of_sum")) := W.gl (W.says.fact 24 (f := .glo "of_sum"))
theorem Wd.gl_of_image (W : Wd K mg) : mg "of_image" = some (.ref (He.ga K "of_image")) := W.gl (W.says.fact 25 (f := .glo "of_image"))
theorem Wd.gl_of_product (W : Wd K mg) : mg "of_product" = some (.ref (He.ga K "of_product")) := W.gl (W.says.fact 26 (f := .glo "of_product"))
theorem Wd.gl_monomials (W : Wd K mg) : mg "monomials" = some (.ref (He.ga K "monomials")) := W.gl (W.says.fact 27 (f := .glo "monomials"))
theorem Wd.gl_exchanged (W : Wd K mg) : mg "exchanged" = some (.ref (He.ga K "exchanged")) := W.gl (W.says.fact 28 (f := .glo "exchanged"))
theorem Wd.gl_change_of_power (W : Wd K mg) : mg "change_of_power" = some (.ref (He.ga K "change_of_power")) := W.gl (W.says.fact 29 (f := .glo "change_of_power"))
theorem Wd.gl_count_monomials (W : Wd K mg) : mg "count_monomials" = some (.ref (He.ga K "count_monomials")) := W.gl (W.says.fact 30 (f := .glo "count_monomials"))
theorem Wd.gl_of_power (W : Wd K mg) : mg "of_power" = some (.ref (He.ga K "of_power")) := W.gl (W.says.fact 31 (f := .glo "of_power"))
theorem Wd.gl_law_state (W : Wd K mg) : mg "_law_state" = some (.ref (He.ga K "_law_state")) := W.gl (W.says.fact 32 (f := .glo "_law_state"))
theorem Wd.gl_law_take (W : Wd K mg) : mg "_law_take" = some (.ref (He.ga K "_law_take")) := W.gl (W.says.fact 33 (f := .glo "_law_take"))
theorem Wd.gl_law_poly (W : Wd K mg) : mg "_law_poly" = some (.ref (He.ga K "_law_poly")) := W.gl (W.says.fact 34 (f := .glo "_law_poly"))
theorem Wd.gl_law_leading (W : Wd K mg) : mg "_law_leading" = some (.ref (He.ga K "_law_leading")) := W.gl (W.says.fact 35 (f := .glo "_law_leading"))
theorem Wd.gl_law_operator (W : Wd K mg) : mg "_law_operator" = some (.ref (He.ga K "_law_operator")) := W.gl (W.says.fact 36 (f := .glo "_law_operator"))
theorem Wd.gl_law_function (W : Wd K mg) : mg "_law_function" = some (.ref (He.ga K "_law_function")) := W.gl (W.says.fact 37 (f := .glo "_law_function"))
theorem Wd.gl_law_is_refused (W : Wd K mg) : mg "_law_is_refused" = some (.ref (He.ga K "_law_is_refused")) := W.gl (W.says.fact 38 (f := .glo "_law_is_refused"))
theorem Wd.gl_law_is_large (W : Wd K mg) : mg "_law_is_large" = some (.ref (He.ga K "_law_is_large")) := W.gl (W.says.fact 39 (f := .glo "_law_is_large"))
theorem Wd.gl_law (W : Wd K mg) : mg "law" = some (.ref (He.ga K "law")) := W.gl (W.says.fact 40 (f := .glo "law"))
theorem Wd.gc_Ratio (W : Wd K mg) : mg "Ratio" = some (.ref (He.ga K "Ratio")) := W.gl (W.says.fact 41 (f := .glo "Ratio"))
theorem Wd.gc_Poly (W : Wd K mg) : mg "Poly" = some (.ref (He.ga K "Poly")) := W.gl (W.says.fact 42 (f := .glo "Poly"))
theorem Wd.gc_RatFun (W : Wd K mg) : mg "RatFun" = some (.ref (He.ga K "RatFun")) := W.gl (W.says.fact 43 (f := .glo "RatFun"))
theorem Wd.gc_Operator (W : Wd K mg) : mg "Operator" = some (.ref (He.ga K "Operator")) := W.gl (W.says.fact 44 (f := .glo "Operator"))
theorem Wd.gc_Relation (W : Wd K mg) : mg "Relation" = some (.ref (He.ga K "Relation")) := W.gl (W.says.fact 45 (f := .glo "Relation"))
theorem Wd.gc_Fault (W : Wd K mg) : mg "Fault" = some (.ref (He.ga K "Fault")) := W.gl (W.says.fact 46 (f := .glo "Fault"))
theorem Wd.gc_ZeroDivisor (W : Wd K mg) : mg "ZeroDivisor" = some (.ref (He.ga K "ZeroDivisor")) := W.gl (W.says.fact 47 (f := .glo "ZeroDivisor"))
theorem Wd.gc_Refused (W : Wd K mg) : mg "Refused" = some (.ref (He.ga K "Refused")) := W.gl (W.says.fact 48 (f := .glo "Refused"))
theorem Wd.fr_len (W : Wd K mg) : mg "len" = none := W.fr (W.says.fact 49 (f := .free "len"))
theorem Wd.fr_isinstance (W : Wd K mg) : mg "isinstance" = none := W.fr (W.says.fact 50 (f := .free "isinstance"))
theorem Wd.fr_int (W : Wd K mg) : mg "int" = none := W.fr (W.says.fact 51 (f := .free "int"))
theorem Wd.fr_tuple (W : Wd K mg) : mg "tuple" = none := W.fr (W.says.fact 52 (f := .free "tuple"))
theorem Wd.fr_list (W : Wd K mg) : mg "list" = none := W.fr (W.says.fact 53 (f := .free "list"))
theorem Wd.fr_zip (W : Wd K mg) : mg "zip" = none := W.fr (W.says.fact 54 (f := .free "zip"))
theorem Wd.fr_enumerate (W : Wd K mg) : mg "enumerate" = none := W.fr (W.says.fact 55 (f := .free "enumerate"))
theorem Wd.fr_range (W : Wd K mg) : mg "range" = none := W.fr (W.says.fact 56 (f := .free "range"))
theorem Wd.fr_max (W : Wd K mg) : mg "max" = none := W.fr (W.says.fact 57 (f := .free "max"))
theorem Wd.fr_abs (W : Wd K mg) : mg "abs" = none := W.fr (W.says.fact 58 (f := .free "abs"))
theorem Wd.fr_super (W : Wd K mg) : mg "super" = none := W.fr (W.says.fact 59 (f := .free "super"))
theorem Wd.fr_ValueError (W : Wd K mg) : mg "ValueError" = none := W.fr (W.says.fact 60 (f := .free "ValueError"))
theorem Wd.cl_R (W : Wd K mg) : Cls K (He.ga K "Ratio") := He.cls_ok (W.says.fact 61 (f := .cls "Ratio"))
theorem Wd.cl_P (W : Wd K mg) : Cls K (He.ga K "Poly") := He.cls_ok (W.says.fact 62 (f := .cls "Poly"))
theorem Wd.cl_F (W : Wd K mg) : Cls K (He.ga K "RatFun") := He.cls_ok (W.says.fact 63 (f := .cls "RatFun"))
theorem Wd.cl_O (W : Wd K mg) : Cls K (He.ga K "Operator") := He.cls_ok (W.says.fact 64 (f := .cls "Operator"))
theorem Wd.cl_L (W : Wd K mg) : Cls K (He.ga K "Relation") := He.cls_ok (W.says.fact 65 (f := .cls "Relation"))
theorem Wd.mk_R (W : Wd K mg) : Mk K (He.ga K "Ratio") (He.fAd K ("Ratio", some "__init__")) := He.mkr_ok (W.says.fact 66 (f := .mkr "Ratio"))
theorem Wd.mk_P (W : Wd K mg) : Mk K (He.ga K "Poly") (He.fAd K ("Poly", some "__init__")) := He.mkr_ok (W.says.fact 67 (f := .mkr "Poly"))
theorem Wd.mk_F (W : Wd K mg) : Mk K (He.ga K "RatFun") (He.fAd K ("RatFun", some "__init__")) := He.mkr_ok (W.says.fact 68 (f := .mkr "RatFun"))
theorem Wd.mk_O (W : Wd K mg) : Mk K (He.ga K "Operator") (He.fAd K ("Operator", some "__init__")) := He.mkr_ok (W.says.fact 69 (f := .mkr "Operator"))
theorem Wd.mk_L (W : Wd K mg) : Mk K (He.ga K "Relation") (He.fAd K ("Relation", some "__init__")) := He.mkr_ok (W.says.fact 70 (f := .mkr "Relation"))
theorem Wd.na_R_n (W : Wd K mg) : NoAttr K (He.ga K "Ratio") "n" := He.noat_ok (W.says.fact 71 (f := .noat "Ratio" "n"))
theorem Wd.na_R_d (W : Wd K mg) : NoAttr K (He.ga K "Ratio") "d" := He.noat_ok (W.says.fact 72 (f := .noat "Ratio" "d"))
theorem Wd.na_P_row (W : Wd K mg) : NoAttr K (He.ga K "Poly") "row" := He.noat_ok (W.says.fact 73 (f := .noat "Poly" "row"))
theorem Wd.na_F_num (W : Wd K mg) : NoAttr K (He.ga K "RatFun") "num" := He.noat_ok (W.says.fact 74 (f := .noat "RatFun" "num"))
theorem Wd.na_F_den (W : Wd K mg) : NoAttr K (He.ga K "RatFun") "den" := He.noat_ok (W.says.fact 75 (f := .noat "RatFun" "den"))
theorem Wd.na_O_coefficients (W : Wd K mg) : NoAttr K (He.ga K "Operator") "coefficients" := He.noat_ok (W.says.fact 76 (f := .noat "Operator" "coefficients"))
theorem Wd.na_L_width (W : Wd K mg) : NoAttr K (He.ga K "Relation") "width" := He.noat_ok (W.says.fact 77 (f := .noat "Relation" "width"))
theorem Wd.na_L_count (W : Wd K mg) : NoAttr K (He.ga K "Relation") "count" := He.noat_ok (W.says.fact 78 (f := .noat "Relation" "count"))
theorem Wd.na_L_rows (W : Wd K mg) : NoAttr K (He.ga K "Relation") "rows" := He.noat_ok (W.says.fact 79 (f := .noat "Relation" "rows"))
theorem Wd.me_R_add (W : Wd K mg) : Meth K (He.ga K "Ratio") "__add__" (He.fAd K ("Ratio", some "__add__")) := He.meth_ok (W.says.fact 80 (f := .meth "Ratio" "__add__"))
theorem Wd.me_R_sub (W : Wd K mg) : Meth K (He.ga K "Ratio") "__sub__" (He.fAd K ("Ratio", some "__sub__")) := He.meth_ok (W.says.fact 81 (f := .meth "Ratio" "__sub__"))
theorem Wd.me_R_mul (W : Wd K mg) : Meth K (He.ga K "Ratio") "__mul__" (He.fAd K ("Ratio", some "__mul__")) := He.meth_ok (W.says.fact 82 (f := .meth "Ratio" "__mul__"))
theorem Wd.me_R_neg (W : Wd K mg) : Meth K (He.ga K "Ratio") "__neg__" (He.fAd K ("Ratio", some "__neg__")) := He.meth_ok (W.says.fact 83 (f := .meth "Ratio" "__neg__"))
theorem Wd.me_R_eq (W : Wd K mg) : Meth K (He.ga K "Ratio") "__eq__" (He.fAd K ("Ratio", some "__eq__")) := He.meth_ok (W.says.fact 84 (f := .meth "Ratio" "__eq__"))
theorem Wd.me_R_inverse (W : Wd K mg) : Meth K (He.ga K "Ratio") "inverse" (He.fAd K ("Ratio", some "inverse")) := He.meth_ok (W.says.fact 85 (f := .meth "Ratio" "inverse"))
theorem Wd.me_P_add (W : Wd K mg) : Meth K (He.ga K "Poly") "__add__" (He.fAd K ("Poly", some "__add__")) := He.meth_ok (W.says.fact 86 (f := .meth "Poly" "__add__"))
theorem Wd.me_P_neg (W : Wd K mg) : Meth K (He.ga K "Poly") "__neg__" (He.fAd K ("Poly", some "__neg__")) := He.meth_ok (W.says.fact 87 (f := .meth "Poly" "__neg__"))
theorem Wd.me_P_sub (W : Wd K mg) : Meth K (He.ga K "Poly") "__sub__" (He.fAd K ("Poly", some "__sub__")) := He.meth_ok (W.says.fact 88 (f := .meth "Poly" "__sub__"))
theorem Wd.me_P_mul (W : Wd K mg) : Meth K (He.ga K "Poly") "__mul__" (He.fAd K ("Poly", some "__mul__")) := He.meth_ok (W.says.fact 89 (f := .meth "Poly" "__mul__"))
theorem Wd.me_P_eq (W : Wd K mg) : Meth K (He.ga K "Poly") "__eq__" (He.fAd K ("Poly", some "__eq__")) := He.meth_ok (W.says.fact 90 (f := .meth "Poly" "__eq__"))
theorem Wd.me_P_floordiv (W : Wd K mg) : Meth K (He.ga K "Poly") "__floordiv__" (He.fAd K ("Poly", some "__floordiv__")) := He.meth_ok (W.says.fact 91 (f := .meth "Poly" "__floordiv__"))
theorem Wd.me_P_divided (W : Wd K mg) : Meth K (He.ga K "Poly") "divided" (He.fAd K ("Poly", some "divided")) := He.meth_ok (W.says.fact 92 (f := .meth "Poly" "divided"))
theorem Wd.me_P_degree (W : Wd K mg) : Meth K (He.ga K "Poly") "degree" (He.fAd K ("Poly", some "degree")) := He.meth_ok (W.says.fact 93 (f := .meth "Poly" "degree"))
theorem Wd.me_P_is_zero (W : Wd K mg) : Meth K (He.ga K "Poly") "is_zero" (He.fAd K ("Poly", some "is_zero")) := He.meth_ok (W.says.fact 94 (f := .meth "Poly" "is_zero"))
theorem Wd.me_P_last (W : Wd K mg) : Meth K (He.ga K "Poly") "last" (He.fAd K ("Poly", some "last")) := He.meth_ok (W.says.fact 95 (f := .meth "Poly" "last"))
theorem Wd.me_P_scaled (W : Wd K mg) : Meth K (He.ga K "Poly") "scaled" (He.fAd K ("Poly", some "scaled")) := He.meth_ok (W.says.fact 96 (f := .meth "Poly" "scaled"))
theorem Wd.me_P_monic (W : Wd K mg) : Meth K (He.ga K "Poly") "monic" (He.fAd K ("Poly", some "monic")) := He.meth_ok (W.says.fact 97 (f := .meth "Poly" "monic"))
theorem Wd.me_P_derivative (W : Wd K mg) : Meth K (He.ga K "Poly") "derivative" (He.fAd K ("Poly", some "derivative")) := He.meth_ok (W.says.fact 98 (f := .meth "Poly" "derivative"))
theorem Wd.me_P_primitive (W : Wd K mg) : Meth K (He.ga K "Poly") "primitive" (He.fAd K ("Poly", some "primitive")) := He.meth_ok (W.says.fact 99 (f := .meth "Poly" "primitive"))
theorem Wd.me_F_eq (W : Wd K mg) : Meth K (He.ga K "RatFun") "__eq__" (He.fAd K ("RatFun", some "__eq__")) := He.meth_ok (W.says.fact 100 (f := .meth "RatFun" "__eq__"))
theorem Wd.me_F_add (W : Wd K mg) : Meth K (He.ga K "RatFun") "__add__" (He.fAd K ("RatFun", some "__add__")) := He.meth_ok (W.says.fact 101 (f := .meth "RatFun" "__add__"))
theorem Wd.me_F_sub (W : Wd K mg) : Meth K (He.ga K "RatFun") "__sub__" (He.fAd K ("RatFun", some "__sub__")) := He.meth_ok (W.says.fact 102 (f := .meth "RatFun" "__sub__"))
theorem Wd.me_F_mul (W : Wd K mg) : Meth K (He.ga K "RatFun") "__mul__" (He.fAd K ("RatFun", some "__mul__")) := He.meth_ok (W.says.fact 103 (f := .meth "RatFun" "__mul__"))
theorem Wd.me_F_neg (W : Wd K mg) : Meth K (He.ga K "RatFun") "__neg__" (He.fAd K ("RatFun", some "__neg__")) := He.meth_ok (W.says.fact 104 (f := .meth "RatFun" "__neg__"))
theorem Wd.me_F_floordiv (W : Wd K mg) : Meth K (He.ga K "RatFun") "__floordiv__" (He.fAd K ("RatFun", some "__floordiv__")) := He.meth_ok (W.says.fact 105 (f := .meth "RatFun" "__floordiv__"))
theorem Wd.me_F_is_zero (W : Wd K mg) : Meth K (He.ga K "RatFun") "is_zero" (He.fAd K ("RatFun", some "is_zero")) := He.meth_ok (W.says.fact 106 (f := .meth "RatFun" "is_zero"))
theorem Wd.me_F_derivative (W : Wd K mg) : Meth K (He.ga K "RatFun") "derivative" (He.fAd K ("RatFun", some "derivative")) := He.meth_ok (W.says.fact 107 (f := .meth "RatFun" "derivative"))
theorem Wd.me_F_inverse (W : Wd K mg) : Meth K (He.ga K "RatFun") "inverse" (He.fAd K ("RatFun", some "inverse")) := He.meth_ok (W.says.fact 108 (f := .meth "RatFun" "inverse"))
theorem Wd.me_O_eq (W : Wd K mg) : Meth K (He.ga K "Operator") "__eq__" (He.fAd K ("Operator", some "__eq__")) := He.meth_ok (W.says.fact 109 (f := .meth "Operator" "__eq__"))
theorem Wd.me_O_getitem (W : Wd K mg) : Meth K (He.ga K "Operator") "__getitem__" (He.fAd K ("Operator", some "__getitem__")) := He.meth_ok (W.says.fact 110 (f := .meth "Operator" "__getitem__"))
theorem Wd.me_O_add (W : Wd K mg) : Meth K (He.ga K "Operator") "__add__" (He.fAd K ("Operator", some "__add__")) := He.meth_ok (W.says.fact 111 (f := .meth "Operator" "__add__"))
theorem Wd.me_O_neg (W : Wd K mg) : Meth K (He.ga K "Operator") "__neg__" (He.fAd K ("Operator", some "__neg__")) := He.meth_ok (W.says.fact 112 (f := .meth "Operator" "__neg__"))
theorem Wd.me_O_sub (W : Wd K mg) : Meth K (He.ga K "Operator") "__sub__" (He.fAd K ("Operator", some "__sub__")) := He.meth_ok (W.says.fact 113 (f := .meth "Operator" "__sub__"))
theorem Wd.me_O_mul (W : Wd K mg) : Meth K (He.ga K "Operator") "__mul__" (He.fAd K ("Operator", some "__mul__")) := He.meth_ok (W.says.fact 114 (f := .meth "Operator" "__mul__"))
theorem Wd.me_O_order (W : Wd K mg) : Meth K (He.ga K "Operator") "order" (He.fAd K ("Operator", some "order")) := He.meth_ok (W.says.fact 115 (f := .meth "Operator" "order"))
theorem Wd.me_O_is_zero (W : Wd K mg) : Meth K (He.ga K "Operator") "is_zero" (He.fAd K ("Operator", some "is_zero")) := He.meth_ok (W.says.fact 116 (f := .meth "Operator" "is_zero"))
theorem Wd.me_O_leading (W : Wd K mg) : Meth K (He.ga K "Operator") "leading" (He.fAd K ("Operator", some "leading")) := He.meth_ok (W.says.fact 117 (f := .meth "Operator" "leading"))
theorem Wd.me_O_monic (W : Wd K mg) : Meth K (He.ga K "Operator") "monic" (He.fAd K ("Operator", some "monic")) := He.meth_ok (W.says.fact 118 (f := .meth "Operator" "monic"))
theorem Wd.me_O_scaled (W : Wd K mg) : Meth K (He.ga K "Operator") "scaled" (He.fAd K ("Operator", some "scaled")) := He.meth_ok (W.says.fact 119 (f := .meth "Operator" "scaled"))
theorem Wd.me_O_after (W : Wd K mg) : Meth K (He.ga K "Operator") "after" (He.fAd K ("Operator", some "after")) := He.meth_ok (W.says.fact 120 (f := .meth "Operator" "after"))
theorem Wd.me_O_divide (W : Wd K mg) : Meth K (He.ga K "Operator") "divide" (He.fAd K ("Operator", some "divide")) := He.meth_ok (W.says.fact 121 (f := .meth "Operator" "divide"))
theorem Wd.me_O_moved (W : Wd K mg) : Meth K (He.ga K "Operator") "moved" (He.fAd K ("Operator", some "moved")) := He.meth_ok (W.says.fact 122 (f := .meth "Operator" "moved"))
theorem Wd.me_L_insert (W : Wd K mg) : Meth K (He.ga K "Relation") "insert" (He.fAd K ("Relation", some "insert")) := He.meth_ok (W.says.fact 123 (f := .meth "Relation" "insert"))
theorem Wd.xc_ZeroDivisor (W : Wd K mg) : He.Fa.ok K (.exc "ZeroDivisor") = true := W.says.fact 124 (f := .exc "ZeroDivisor")
theorem Wd.xm_ZZ (W : Wd K mg) : He.Fa.ok K (.exm "ZeroDivisor" "ZeroDivisor" true) = true := W.says.fact 125 (f := .exm "ZeroDivisor" "ZeroDivisor" true)
theorem Wd.xm_ZF (W : Wd K mg) : He.Fa.ok K (.exm "ZeroDivisor" "Fault" true) = true := W.says.fact 126 (f := .exm "ZeroDivisor" "Fault" true)
theorem Wd.xm_RF (W : Wd K mg) : He.Fa.ok K (.exm "Refused" "Fault" true) = true := W.says.fact 127 (f := .exm "Refused" "Fault" true)
theorem Wd.xk_R (W : Wd K mg) : He.Fa.ok K (.keep "Refused") = true := W.says.fact 128 (f := .keep "Refused")
theorem Wd.fd_zero (W : Wd K mg) : ∃ fd, FunD K "zero" "zero" (defArgs st_zero) (defBody st_zero) (defScope st_zero) [] [] (He.fAd K ("zero", none)) fd := W.says.def_ 0 (d := dd_zero)
theorem Wd.fd_one (W : Wd K mg) : ∃ fd, FunD K "one" "one" (defArgs st_one) (defBody st_one) (defScope st_one) [] [] (He.fAd K ("one", none)) fd := W.says.def_ 1 (d := dd_one)
theorem Wd.fd_trimmed (W : Wd K mg) : ∃ fd, FunD K "_trimmed" "_trimmed" (defArgs st_trimmed) (defBody st_trimmed) (defScope st_trimmed) [] [] (He.fAd K ("_trimmed", none)) fd := W.says.def_ 2 (d := dd_trimmed)
theorem Wd.fd_constant (W : Wd K mg) : ∃ fd, FunD K "constant" "constant" (defArgs st_constant) (defBody st_constant) (defScope st_constant) [] [] (He.fAd K ("constant", none)) fd := W.says.def_ 3 (d := dd_constant)
theorem Wd.fd_primitive_row (W : Wd K mg) : ∃ fd, FunD K "_primitive_row" "_primitive_row" (defArgs st_primitive_row) (defBody st_primitive_row) (defScope st_primitive_row) [] [] (He.fAd K ("_primitive_row", none)) fd := W.says.def_ 4 (d := dd_primitive_row)
theorem Wd.fd_integer_rest (W : Wd K mg) : ∃ fd, FunD K "_integer_rest" "_integer_rest" (defArgs st_integer_rest) (defBody st_integer_rest) (defScope st_integer_rest) [] [] (He.fAd K ("_integer_rest", none)) fd := W.says.def_ 5 (d := dd_integer_rest)
theorem Wd.fd_common_divisor (W : Wd K mg) : ∃ fd, FunD K "common_divisor" "common_divisor" (defArgs st_common_divisor) (defBody st_common_divisor) (defScope st_common_divisor) [] [] (He.fAd K ("common_divisor", none)) fd := W.says.def_ 6 (d := dd_common_divisor)
theorem Wd.fd_of_poly (W : Wd K mg) : ∃ fd, FunD K "of_poly" "of_poly" (defArgs st_of_poly) (defBody st_of_poly) (defScope st_of_poly) [] [] (He.fAd K ("of_poly", none)) fd := W.says.def_ 7 (d := dd_of_poly)
theorem Wd.fd_of_ratio (W : Wd K mg) : ∃ fd, FunD K "of_ratio" "of_ratio" (defArgs st_of_ratio) (defBody st_of_ratio) (defScope st_of_ratio) [] [] (He.fAd K ("of_ratio", none)) fd := W.says.def_ 8 (d := dd_of_ratio)
theorem Wd.fd_add_rows (W : Wd K mg) : ∃ fd, FunD K "add_rows" "add_rows" (defArgs st_add_rows) (defBody st_add_rows) (defScope st_add_rows) [] [] (He.fAd K ("add_rows", none)) fd := W.says.def_ 9 (d := dd_add_rows)
theorem Wd.fd_scale_row (W : Wd K mg) : ∃ fd, FunD K "scale_row" "scale_row" (defArgs st_scale_row) (defBody st_scale_row) (defScope st_scale_row) [] [] (He.fAd K ("scale_row", none)) fd := W.says.def_ 10 (d := dd_scale_row)
theorem Wd.fd_advance_row (W : Wd K mg) : ∃ fd, FunD K "advance_row" "advance_row" (defArgs st_advance_row) (defBody st_advance_row) (defScope st_advance_row) [] [] (He.fAd K ("advance_row", none)) fd := W.says.def_ 11 (d := dd_advance_row)
theorem Wd.fd_multiply_rows (W : Wd K mg) : ∃ fd, FunD K "multiply_rows" "multiply_rows" (defArgs st_multiply_rows) (defBody st_multiply_rows) (defScope st_multiply_rows) [] [] (He.fAd K ("multiply_rows", none)) fd := W.says.def_ 12 (d := dd_multiply_rows)
theorem Wd.fd_of_function (W : Wd K mg) : ∃ fd, FunD K "of_function" "of_function" (defArgs st_of_function) (defBody st_of_function) (defScope st_of_function) [] [] (He.fAd K ("of_function", none)) fd := W.says.def_ 13 (d := dd_of_function)
theorem Wd.fd_monomial (W : Wd K mg) : ∃ fd, FunD K "monomial" "monomial" (defArgs st_monomial) (defBody st_monomial) (defScope st_monomial) [] [] (He.fAd K ("monomial", none)) fd := W.says.def_ 14 (d := dd_monomial)
theorem Wd.fd_first_order (W : Wd K mg) : ∃ fd, FunD K "first_order" "first_order" (defArgs st_first_order) (defBody st_first_order) (defScope st_first_order) [] [] (He.fAd K ("first_order", none)) fd := W.says.def_ 15 (d := dd_first_order)
theorem Wd.fd_euclid (W : Wd K mg) : ∃ fd, FunD K "euclid" "euclid" (defArgs st_euclid) (defBody st_euclid) (defScope st_euclid) [] [] (He.fAd K ("euclid", none)) fd := W.says.def_ 16 (d := dd_euclid)
theorem Wd.fd_left_multiple (W : Wd K mg) : ∃ fd, FunD K "left_multiple" "left_multiple" (defArgs st_left_multiple) (defBody st_left_multiple) (defScope st_left_multiple) [] [] (He.fAd K ("left_multiple", none)) fd := W.says.def_ 17 (d := dd_left_multiple)
theorem Wd.fd_quotient (W : Wd K mg) : ∃ fd, FunD K "quotient" "quotient" (defArgs st_quotient) (defBody st_quotient) (defScope st_quotient) [] [] (He.fAd K ("quotient", none)) fd := W.says.def_ 18 (d := dd_quotient)
theorem Wd.fd_tail (W : Wd K mg) : ∃ fd, FunD K "tail" "tail" (defArgs st_tail) (defBody st_tail) (defScope st_tail) [] [] (He.fAd K ("tail", none)) fd := W.says.def_ 19 (d := dd_tail)
theorem Wd.fd_raised (W : Wd K mg) : ∃ fd, FunD K "raised" "raised" (defArgs st_raised) (defBody st_raised) (defScope st_raised) [] [] (He.fAd K ("raised", none)) fd := W.says.def_ 20 (d := dd_raised)
theorem Wd.fd_change_of_product (W : Wd K mg) : ∃ fd, FunD K "change_of_product" "change_of_product" (defArgs st_change_of_product) (defBody st_change_of_product) (defScope st_change_of_product) [] [] (He.fAd K ("change_of_product", none)) fd := W.says.def_ 21 (d := dd_change_of_product)
theorem Wd.fd_unit (W : Wd K mg) : ∃ fd, FunD K "unit" "unit" (defArgs st_unit) (defBody st_unit) (defScope st_unit) [] [] (He.fAd K ("unit", none)) fd := W.says.def_ 22 (d := dd_unit)
theorem Wd.fd_check (W : Wd K mg) : ∃ fd, FunD K "check" "check" (defArgs st_check) (defBody st_check) (defScope st_check) [] [] (He.fAd K ("check", none)) fd := W.says.def_ 23 (d := dd_check)
theorem Wd.fd_of_sum (W : Wd K mg) : ∃ fd, FunD K "of_sum" "of_sum" (defArgs st_of_sum) (defBody st_of_sum) (defScope st_of_sum) [] [] (He.fAd K ("of_sum", none)) fd := W.says.def_ 24 (d := dd_of_sum)
theorem Wd.fd_of_image (W : Wd K mg) : ∃ fd, FunD K "of_image" "of_image" (defArgs st_of_image) (defBody st_of_image) (defScope st_of_image) [] [] (He.fAd K ("of_image", none)) fd := W.says.def_ 25 (d := dd_of_image)
theorem Wd.fd_of_product (W : Wd K mg) : ∃ fd, FunD K "of_product" "of_product" (defArgs st_of_product) (defBody st_of_product) (defScope st_of_product) [] [] (He.fAd K ("of_product", none)) fd := W.says.def_ 26 (d := dd_of_product)
theorem Wd.fd_monomials (W : Wd K mg) : ∃ fd, FunD K "monomials" "monomials" (defArgs st_monomials) (defBody st_monomials) (defScope st_monomials) [] [] (He.fAd K ("monomials", none)) fd := W.says.def_ 27 (d := dd_monomials)
theorem Wd.fd_exchanged (W : Wd K mg) : ∃ fd, FunD K "exchanged" "exchanged" (defArgs st_exchanged) (defBody st_exchanged) (defScope st_exchanged) [] [] (He.fAd K ("exchanged", none)) fd := W.says.def_ 28 (d := dd_exchanged)
theorem Wd.fd_change_of_power (W : Wd K mg) : ∃ fd, FunD K "change_of_power" "change_of_power" (defArgs st_change_of_power) (defBody st_change_of_power) (defScope st_change_of_power) [] [] (He.fAd K ("change_of_power", none)) fd := W.says.def_ 29 (d := dd_change_of_power)
theorem Wd.fd_count_monomials (W : Wd K mg) : ∃ fd, FunD K "count_monomials" "count_monomials" (defArgs st_count_monomials) (defBody st_count_monomials) (defScope st_count_monomials) [] [] (He.fAd K ("count_monomials", none)) fd := W.says.def_ 30 (d := dd_count_monomials)
theorem Wd.fd_of_power (W : Wd K mg) : ∃ fd, FunD K "of_power" "of_power" (defArgs st_of_power) (defBody st_of_power) (defScope st_of_power) [] [("most", .int 60)] (He.fAd K ("of_power", none)) fd := W.says.def_ 31 (d := dd_of_power)
theorem Wd.fd_law_state (W : Wd K mg) : ∃ fd, FunD K "_law_state" "_law_state" (defArgs st_law_state) (defBody st_law_state) (defScope st_law_state) [] [] (He.fAd K ("_law_state", none)) fd := W.says.def_ 32 (d := dd_law_state)
theorem Wd.fd_law_take (W : Wd K mg) : ∃ fd, FunD K "_law_take" "_law_take" (defArgs st_law_take) (defBody st_law_take) (defScope st_law_take) [] [] (He.fAd K ("_law_take", none)) fd := W.says.def_ 33 (d := dd_law_take)
theorem Wd.fd_law_poly (W : Wd K mg) : ∃ fd, FunD K "_law_poly" "_law_poly" (defArgs st_law_poly) (defBody st_law_poly) (defScope st_law_poly) [] [] (He.fAd K ("_law_poly", none)) fd := W.says.def_ 34 (d := dd_law_poly)
theorem Wd.fd_law_leading (W : Wd K mg) : ∃ fd, FunD K "_law_leading" "_law_leading" (defArgs st_law_leading) (defBody st_law_leading) (defScope st_law_leading) [] [] (He.fAd K ("_law_leading", none)) fd := W.says.def_ 35 (d := dd_law_leading)
theorem Wd.fd_law_operator (W : Wd K mg) : ∃ fd, FunD K "_law_operator" "_law_operator" (defArgs st_law_operator) (defBody st_law_operator) (defScope st_law_operator) [] [] (He.fAd K ("_law_operator", none)) fd := W.says.def_ 36 (d := dd_law_operator)
theorem Wd.fd_law_function (W : Wd K mg) : ∃ fd, FunD K "_law_function" "_law_function" (defArgs st_law_function) (defBody st_law_function) (defScope st_law_function) [] [] (He.fAd K ("_law_function", none)) fd := W.says.def_ 37 (d := dd_law_function)
theorem Wd.fd_law_is_refused (W : Wd K mg) : ∃ fd, FunD K "_law_is_refused" "_law_is_refused" (defArgs st_law_is_refused) (defBody st_law_is_refused) (defScope st_law_is_refused) [] [] (He.fAd K ("_law_is_refused", none)) fd := W.says.def_ 38 (d := dd_law_is_refused)
theorem Wd.fd_law_is_large (W : Wd K mg) : ∃ fd, FunD K "_law_is_large" "_law_is_large" (defArgs st_law_is_large) (defBody st_law_is_large) (defScope st_law_is_large) [] [] (He.fAd K ("_law_is_large", none)) fd := W.says.def_ 39 (d := dd_law_is_large)
theorem Wd.fd_law (W : Wd K mg) : ∃ fd, FunD K "law" "law" (defArgs st_law) (defBody st_law) (defScope st_law) [] [] (He.fAd K ("law", none)) fd := W.says.def_ 40 (d := dd_law)
theorem Wd.fd_R_init (W : Wd K mg) : ∃ fd, FunD K "__init__" "Ratio.__init__" (defArgs st_R_init) (defBody st_R_init) (defScope st_R_init) [.int 1] [] (He.fAd K ("Ratio", some "__init__")) fd := W.says.def_ 41 (d := dd_R_init)
theorem Wd.fd_R_add (W : Wd K mg) : ∃ fd, FunD K "__add__" "Ratio.__add__" (defArgs st_R_add) (defBody st_R_add) (defScope st_R_add) [] [] (He.fAd K ("Ratio", some "__add__")) fd := W.says.def_ 42 (d := dd_R_add)
theorem Wd.fd_R_sub (W : Wd K mg) : ∃ fd, FunD K "__sub__" "Ratio.__sub__" (defArgs st_R_sub) (defBody st_R_sub) (defScope st_R_sub) [] [] (He.fAd K ("Ratio", some "__sub__")) fd := W.says.def_ 43 (d := dd_R_sub)
theorem Wd.fd_R_mul (W : Wd K mg) : ∃ fd, FunD K "__mul__" "Ratio.__mul__" (defArgs st_R_mul) (defBody st_R_mul) (defScope st_R_mul) [] [] (He.fAd K ("Ratio", some "__mul__")) fd := W.says.def_ 44 (d := dd_R_mul)
theorem Wd.fd_R_neg (W : Wd K mg) : ∃ fd, FunD K "__neg__" "Ratio.__neg__" (defArgs st_R_neg) (defBody st_R_neg) (defScope st_R_neg) [] [] (He.fAd K ("Ratio", some "__neg__")) fd := W.says.def_ 45 (d := dd_R_neg)
theorem Wd.fd_R_eq (W : Wd K mg) : ∃ fd, FunD K "__eq__" "Ratio.__eq__" (defArgs st_R_eq) (defBody st_R_eq) (defScope st_R_eq) [] [] (He.fAd K ("Ratio", some "__eq__")) fd := W.says.def_ 46 (d := dd_R_eq)
theorem Wd.fd_R_inverse (W : Wd K mg) : ∃ fd, FunD K "inverse" "Ratio.inverse" (defArgs st_R_inverse) (defBody st_R_inverse) (defScope st_R_inverse) [] [] (He.fAd K ("Ratio", some "inverse")) fd := W.says.def_ 47 (d := dd_R_inverse)
theorem Wd.fd_P_init (W : Wd K mg) : ∃ fd, FunD K "__init__" "Poly.__init__" (defArgs st_P_init) (defBody st_P_init) (defScope st_P_init) [] [] (He.fAd K ("Poly", some "__init__")) fd := W.says.def_ 48 (d := dd_P_init)
theorem Wd.fd_P_add (W : Wd K mg) : ∃ fd, FunD K "__add__" "Poly.__add__" (defArgs st_P_add) (defBody st_P_add) (defScope st_P_add) [] [] (He.fAd K ("Poly", some "__add__")) fd := W.says.def_ 49 (d := dd_P_add)
theorem Wd.fd_P_neg (W : Wd K mg) : ∃ fd, FunD K "__neg__" "Poly.__neg__" (defArgs st_P_neg) (defBody st_P_neg) (defScope st_P_neg) [] [] (He.fAd K ("Poly", some "__neg__")) fd := W.says.def_ 50 (d := dd_P_neg)
theorem Wd.fd_P_sub (W : Wd K mg) : ∃ fd, FunD K "__sub__" "Poly.__sub__" (defArgs st_P_sub) (defBody st_P_sub) (defScope st_P_sub) [] [] (He.fAd K ("Poly", some "__sub__")) fd := W.says.def_ 51 (d := dd_P_sub)
theorem Wd.fd_P_mul (W : Wd K mg) : ∃ fd, FunD K "__mul__" "Poly.__mul__" (defArgs st_P_mul) (defBody st_P_mul) (defScope st_P_mul) [] [] (He.fAd K ("Poly", some "__mul__")) fd := W.says.def_ 52 (d := dd_P_mul)
theorem Wd.fd_P_eq (W : Wd K mg) : ∃ fd, FunD K "__eq__" "Poly.__eq__" (defArgs st_P_eq) (defBody st_P_eq) (defScope st_P_eq) [] [] (He.fAd K ("Poly", some "__eq__")) fd := W.says.def_ 53 (d := dd_P_eq)
theorem Wd.fd_P_floordiv (W : Wd K mg) : ∃ fd, FunD K "__floordiv__" "Poly.__floordiv__" (defArgs st_P_floordiv) (defBody st_P_floordiv) (defScope st_P_floordiv) [] [] (He.fAd K ("Poly", some "__floordiv__")) fd := W.says.def_ 54 (d := dd_P_floordiv)
theorem Wd.fd_P_divided (W : Wd K mg) : ∃ fd, FunD K "divided" "Poly.divided" (defArgs st_P_divided) (defBody st_P_divided) (defScope st_P_divided) [] [] (He.fAd K ("Poly", some "divided")) fd := W.says.def_ 55 (d := dd_P_divided)
theorem Wd.fd_P_degree (W : Wd K mg) : ∃ fd, FunD K "degree" "Poly.degree" (defArgs st_P_degree) (defBody st_P_degree) (defScope st_P_degree) [] [] (He.fAd K ("Poly", some "degree")) fd := W.says.def_ 56 (d := dd_P_degree)
theorem Wd.fd_P_is_zero (W : Wd K mg) : ∃ fd, FunD K "is_zero" "Poly.is_zero" (defArgs st_P_is_zero) (defBody st_P_is_zero) (defScope st_P_is_zero) [] [] (He.fAd K ("Poly", some "is_zero")) fd := W.says.def_ 57 (d := dd_P_is_zero)
theorem Wd.fd_P_last (W : Wd K mg) : ∃ fd, FunD K "last" "Poly.last" (defArgs st_P_last) (defBody st_P_last) (defScope st_P_last) [] [] (He.fAd K ("Poly", some "last")) fd := W.says.def_ 58 (d := dd_P_last)
theorem Wd.fd_P_scaled (W : Wd K mg) : ∃ fd, FunD K "scaled" "Poly.scaled" (defArgs st_P_scaled) (defBody st_P_scaled) (defScope st_P_scaled) [] [] (He.fAd K ("Poly", some "scaled")) fd := W.says.def_ 59 (d := dd_P_scaled)
theorem Wd.fd_P_monic (W : Wd K mg) : ∃ fd, FunD K "monic" "Poly.monic" (defArgs st_P_monic) (defBody st_P_monic) (defScope st_P_monic) [] [] (He.fAd K ("Poly", some "monic")) fd := W.says.def_ 60 (d := dd_P_monic)
theorem Wd.fd_P_derivative (W : Wd K mg) : ∃ fd, FunD K "derivative" "Poly.derivative" (defArgs st_P_derivative) (defBody st_P_derivative) (defScope st_P_derivative) [] [] (He.fAd K ("Poly", some "derivative")) fd := W.says.def_ 61 (d := dd_P_derivative)
theorem Wd.fd_P_primitive (W : Wd K mg) : ∃ fd, FunD K "primitive" "Poly.primitive" (defArgs st_P_primitive) (defBody st_P_primitive) (defScope st_P_primitive) [] [] (He.fAd K ("Poly", some "primitive")) fd := W.says.def_ 62 (d := dd_P_primitive)
theorem Wd.fd_F_init (W : Wd K mg) : ∃ fd, FunD K "__init__" "RatFun.__init__" (defArgs st_F_init) (defBody st_F_init) (defScope st_F_init) [] [] (He.fAd K ("RatFun", some "__init__")) fd := W.says.def_ 63 (d := dd_F_init)
theorem Wd.fd_F_eq (W : Wd K mg) : ∃ fd, FunD K "__eq__" "RatFun.__eq__" (defArgs st_F_eq) (defBody st_F_eq) (defScope st_F_eq) [] [] (He.fAd K ("RatFun", some "__eq__")) fd := W.says.def_ 64 (d := dd_F_eq)
theorem Wd.fd_F_add (W : Wd K mg) : ∃ fd, FunD K "__add__" "RatFun.__add__" (defArgs st_F_add) (defBody st_F_add) (defScope st_F_add) [] [] (He.fAd K ("RatFun", some "__add__")) fd := W.says.def_ 65 (d := dd_F_add)
theorem Wd.fd_F_sub (W : Wd K mg) : ∃ fd, FunD K "__sub__" "RatFun.__sub__" (defArgs st_F_sub) (defBody st_F_sub) (defScope st_F_sub) [] [] (He.fAd K ("RatFun", some "__sub__")) fd := W.says.def_ 66 (d := dd_F_sub)
theorem Wd.fd_F_mul (W : Wd K mg) : ∃ fd, FunD K "__mul__" "RatFun.__mul__" (defArgs st_F_mul) (defBody st_F_mul) (defScope st_F_mul) [] [] (He.fAd K ("RatFun", some "__mul__")) fd := W.says.def_ 67 (d := dd_F_mul)
theorem Wd.fd_F_neg (W : Wd K mg) : ∃ fd, FunD K "__neg__" "RatFun.__neg__" (defArgs st_F_neg) (defBody st_F_neg) (defScope st_F_neg) [] [] (He.fAd K ("RatFun", some "__neg__")) fd := W.says.def_ 68 (d := dd_F_neg)
theorem Wd.fd_F_floordiv (W : Wd K mg) : ∃ fd, FunD K "__floordiv__" "RatFun.__floordiv__" (defArgs st_F_floordiv) (defBody st_F_floordiv) (defScope st_F_floordiv) [] [] (He.fAd K ("RatFun", some "__floordiv__")) fd := W.says.def_ 69 (d := dd_F_floordiv)
theorem Wd.fd_F_is_zero (W : Wd K mg) : ∃ fd, FunD K "is_zero" "RatFun.is_zero" (defArgs st_F_is_zero) (defBody st_F_is_zero) (defScope st_F_is_zero) [] [] (He.fAd K ("RatFun", some "is_zero")) fd := W.says.def_ 70 (d := dd_F_is_zero)
theorem Wd.fd_F_derivative (W : Wd K mg) : ∃ fd, FunD K "derivative" "RatFun.derivative" (defArgs st_F_derivative) (defBody st_F_derivative) (defScope st_F_derivative) [] [] (He.fAd K ("RatFun", some "derivative")) fd := W.says.def_ 71 (d := dd_F_derivative)
theorem Wd.fd_F_inverse (W : Wd K mg) : ∃ fd, FunD K "inverse" "RatFun.inverse" (defArgs st_F_inverse) (defBody st_F_inverse) (defScope st_F_inverse) [] [] (He.fAd K ("RatFun", some "inverse")) fd := W.says.def_ 72 (d := dd_F_inverse)
theorem Wd.fd_O_init (W : Wd K mg) : ∃ fd, FunD K "__init__" "Operator.__init__" (defArgs st_O_init) (defBody st_O_init) (defScope st_O_init) [] [] (He.fAd K ("Operator", some "__init__")) fd := W.says.def_ 73 (d := dd_O_init)
theorem Wd.fd_O_eq (W : Wd K mg) : ∃ fd, FunD K "__eq__" "Operator.__eq__" (defArgs st_O_eq) (defBody st_O_eq) (defScope st_O_eq) [] [] (He.fAd K ("Operator", some "__eq__")) fd := W.says.def_ 74 (d := dd_O_eq)
theorem Wd.fd_O_getitem (W : Wd K mg) : ∃ fd, FunD K "__getitem__" "Operator.__getitem__" (defArgs st_O_getitem) (defBody st_O_getitem) (defScope st_O_getitem) [] [] (He.fAd K ("Operator", some "__getitem__")) fd := W.says.def_ 75 (d := dd_O_getitem)
theorem Wd.fd_O_add (W : Wd K mg) : ∃ fd, FunD K "__add__" "Operator.__add__" (defArgs st_O_add) (defBody st_O_add) (defScope st_O_add) [] [] (He.fAd K ("Operator", some "__add__")) fd := W.says.def_ 76 (d := dd_O_add)
theorem Wd.fd_O_neg (W : Wd K mg) : ∃ fd, FunD K "__neg__" "Operator.__neg__" (defArgs st_O_neg) (defBody st_O_neg) (defScope st_O_neg) [] [] (He.fAd K ("Operator", some "__neg__")) fd := W.says.def_ 77 (d := dd_O_neg)
theorem Wd.fd_O_sub (W : Wd K mg) : ∃ fd, FunD K "__sub__" "Operator.__sub__" (defArgs st_O_sub) (defBody st_O_sub) (defScope st_O_sub) [] [] (He.fAd K ("Operator", some "__sub__")) fd := W.says.def_ 78 (d := dd_O_sub)
theorem Wd.fd_O_mul (W : Wd K mg) : ∃ fd, FunD K "__mul__" "Operator.__mul__" (defArgs st_O_mul) (defBody st_O_mul) (defScope st_O_mul) [] [] (He.fAd K ("Operator", some "__mul__")) fd := W.says.def_ 79 (d := dd_O_mul)
theorem Wd.fd_O_order (W : Wd K mg) : ∃ fd, FunD K "order" "Operator.order" (defArgs st_O_order) (defBody st_O_order) (defScope st_O_order) [] [] (He.fAd K ("Operator", some "order")) fd := W.says.def_ 80 (d := dd_O_order)
theorem Wd.fd_O_is_zero (W : Wd K mg) : ∃ fd, FunD K "is_zero" "Operator.is_zero" (defArgs st_O_is_zero) (defBody st_O_is_zero) (defScope st_O_is_zero) [] [] (He.fAd K ("Operator", some "is_zero")) fd := W.says.def_ 81 (d := dd_O_is_zero)
theorem Wd.fd_O_leading (W : Wd K mg) : ∃ fd, FunD K "leading" "Operator.leading" (defArgs st_O_leading) (defBody st_O_leading) (defScope st_O_leading) [] [] (He.fAd K ("Operator", some "leading")) fd := W.says.def_ 82 (d := dd_O_leading)
theorem Wd.fd_O_monic (W : Wd K mg) : ∃ fd, FunD K "monic" "Operator.monic" (defArgs st_O_monic) (defBody st_O_monic) (defScope st_O_monic) [] [] (He.fAd K ("Operator", some "monic")) fd := W.says.def_ 83 (d := dd_O_monic)
theorem Wd.fd_O_scaled (W : Wd K mg) : ∃ fd, FunD K "scaled" "Operator.scaled" (defArgs st_O_scaled) (defBody st_O_scaled) (defScope st_O_scaled) [] [] (He.fAd K ("Operator", some "scaled")) fd := W.says.def_ 84 (d := dd_O_scaled)
theorem Wd.fd_O_after (W : Wd K mg) : ∃ fd, FunD K "after" "Operator.after" (defArgs st_O_after) (defBody st_O_after) (defScope st_O_after) [] [] (He.fAd K ("Operator", some "after")) fd := W.says.def_ 85 (d := dd_O_after)
theorem Wd.fd_O_divide (W : Wd K mg) : ∃ fd, FunD K "divide" "Operator.divide" (defArgs st_O_divide) (defBody st_O_divide) (defScope st_O_divide) [] [] (He.fAd K ("Operator", some "divide")) fd := W.says.def_ 86 (d := dd_O_divide)
theorem Wd.fd_O_moved (W : Wd K mg) : ∃ fd, FunD K "moved" "Operator.moved" (defArgs st_O_moved) (defBody st_O_moved) (defScope st_O_moved) [] [] (He.fAd K ("Operator", some "moved")) fd := W.says.def_ 87 (d := dd_O_moved)
theorem Wd.fd_L_init (W : Wd K mg) : ∃ fd, FunD K "__init__" "Relation.__init__" (defArgs st_L_init) (defBody st_L_init) (defScope st_L_init) [] [] (He.fAd K ("Relation", some "__init__")) fd := W.says.def_ 88 (d := dd_L_init)
theorem Wd.fd_L_insert (W : Wd K mg) : ∃ fd, FunD K "insert" "Relation.insert" (defArgs st_L_insert) (defBody st_L_insert) (defScope st_L_insert) [] [] (He.fAd K ("Relation", some "insert")) fd := W.says.def_ 89 (d := dd_L_insert)
end
abbrev N_zero : List Str := []
abbrev p_zero : List Str := []
theorem sc_zero : FnScope N_zero p_zero (defScope st_zero) := ⟨rfl, rfl, rfl, by decide +kernel, rfl, by decide +kernel, by decide +kernel⟩
abbrev N_one : List Str := []
abbrev p_one : List Str := []
theorem sc_one : FnScope N_one p_one (defScope st_one) := ⟨rfl, rfl, rfl, by decide +kernel, rfl, by decide +kernel, by decide +kernel⟩
abbrev N_trimmed : List Str := ["row", "size"]
abbrev p_trimmed : List Str := ["row"]
theorem sc_trimmed : FnScope N_trimmed p_trimmed (defScope st_trimmed) := ⟨rfl, rfl, rfl, by decide +kernel, rfl, by decide +kernel, by decide +kernel⟩
abbrev N_constant : List Str := ["r"]
abbrev p_constant : List Str := ["r"]
theorem sc_constant : FnScope N_constant p_constant (defScope st_constant) := ⟨rfl, rfl, rfl, by decide +kernel, rfl, by decide +kernel, by decide +kernel⟩
abbrev N_primitive_row : List Str := ["row", "size", "common", "n"]
abbrev p_primitive_row : List Str := ["row"]
theorem sc_primitive_row : FnScope N_primitive_row p_primitive_row (defScope st_primitive_row) := ⟨rfl, rfl, rfl, by decide +kernel, rfl, by decide +kernel, by decide +kernel⟩
abbrev N_integer_rest : List Str := ["first", "second", "rest", "head", "common", "times", "factor", "shift", "at", "n"]
abbrev p_integer_rest : List Str := ["first", "second"]
theorem sc_integer_rest : FnScope N_integer_rest p_integer_rest (defScope st_integer_rest) := ⟨rfl, rfl, rfl, by decide +kernel, rfl, by decide +kernel, by decide +kernel⟩
abbrev N_common_divisor : List Str := ["p", "q", "first", "second", "head", "n"]
abbrev p_common_divisor : List Str := ["p", "q"]
theorem sc_common_divisor : FnScope N_common_divisor p_common_divisor (defScope st_common_divisor) := ⟨rfl, rfl, rfl, by decide +kernel, rfl, by decide +kernel, by decide +kernel⟩
abbrev N_of_poly : List Str := ["p"]
abbrev p_of_poly : List Str := ["p"]
theorem sc_of_poly : FnScope N_of_poly p_of_poly (defScope st_of_poly) := ⟨rfl, rfl, rfl, by decide +kernel, rfl, by decide +kernel, by decide +kernel⟩
abbrev N_of_ratio : List Str := ["q"]
abbrev p_of_ratio : List Str := ["q"]
theorem sc_of_ratio : FnScope N_of_ratio p_of_ratio (defScope st_of_ratio) := ⟨rfl, rfl, rfl, by decide +kernel, rfl, by decide +kernel, by decide +kernel⟩
abbrev N_add_rows : List Str := ["first", "second", "found", "k"]
abbrev p_add_rows : List Str := ["first", "second"]
theorem sc_add_rows : FnScope N_add_rows p_add_rows (defScope st_add_rows) := ⟨rfl, rfl, rfl, by decide +kernel, rfl, by decide +kernel, by decide +kernel⟩
abbrev N_scale_row : List Str := ["f", "row", "c"]
abbrev p_scale_row : List Str := ["f", "row"]
theorem sc_scale_row : FnScope N_scale_row p_scale_row (defScope st_scale_row) := ⟨rfl, rfl, rfl, by decide +kernel, rfl, by decide +kernel, by decide +kernel⟩
abbrev N_advance_row : List Str := ["row", "found", "k", "c"]
abbrev p_advance_row : List Str := ["row"]
theorem sc_advance_row : FnScope N_advance_row p_advance_row (defScope st_advance_row) := ⟨rfl, rfl, rfl, by decide +kernel, rfl, by decide +kernel, by decide +kernel⟩
abbrev N_multiply_rows : List Str := ["first", "second", "total", "power", "c"]
abbrev p_multiply_rows : List Str := ["first", "second"]
theorem sc_multiply_rows : FnScope N_multiply_rows p_multiply_rows (defScope st_multiply_rows) := ⟨rfl, rfl, rfl, by decide +kernel, rfl, by decide +kernel, by decide +kernel⟩
abbrev N_of_function : List Str := ["f"]
abbrev p_of_function : List Str := ["f"]
theorem sc_of_function : FnScope N_of_function p_of_function (defScope st_of_function) := ⟨rfl, rfl, rfl, by decide +kernel, rfl, by decide +kernel, by decide +kernel⟩
abbrev N_monomial : List Str := ["f", "k", "_"]
abbrev p_monomial : List Str := ["f", "k"]
theorem sc_monomial : FnScope N_monomial p_monomial (defScope st_monomial) := ⟨rfl, rfl, rfl, by decide +kernel, rfl, by decide +kernel, by decide +kernel⟩
abbrev N_first_order : List Str := ["u"]
abbrev p_first_order : List Str := ["u"]
theorem sc_first_order : FnScope N_first_order p_first_order (defScope st_first_order) := ⟨rfl, rfl, rfl, by decide +kernel, rfl, by decide +kernel, by decide +kernel⟩
abbrev N_euclid : List Str := ["a", "b", "u", "v", "s", "t", "q", "r"]
abbrev p_euclid : List Str := ["a", "b"]
theorem sc_euclid : FnScope N_euclid p_euclid (defScope st_euclid) := ⟨rfl, rfl, rfl, by decide +kernel, rfl, by decide +kernel, by decide +kernel⟩
abbrev N_left_multiple : List Str := ["a", "b", "_", "s", "t", "m", "scale"]
abbrev p_left_multiple : List Str := ["a", "b"]
theorem sc_left_multiple : FnScope N_left_multiple p_left_multiple (defScope st_left_multiple) := ⟨rfl, rfl, rfl, by decide +kernel, rfl, by decide +kernel, by decide +kernel⟩
abbrev N_quotient : List Str := ["a", "m", "q", "r"]
abbrev p_quotient : List Str := ["a", "m"]
theorem sc_quotient : FnScope N_quotient p_quotient (defScope st_quotient) := ⟨rfl, rfl, rfl, by decide +kernel, rfl, by decide +kernel, by decide +kernel⟩
abbrev N_tail : List Str := ["a", "scale", "k"]
abbrev p_tail : List Str := ["a"]
theorem sc_tail : FnScope N_tail p_tail (defScope st_tail) := ⟨rfl, rfl, rfl, by decide +kernel, rfl, by decide +kernel, by decide +kernel⟩
abbrev N_raised : List Str := ["at", "row"]
abbrev p_raised : List Str := ["at", "row"]
theorem sc_raised : FnScope N_raised p_raised (defScope st_raised) := ⟨rfl, rfl, rfl, by decide +kernel, rfl, by decide +kernel, by decide +kernel⟩
abbrev N_change_of_product : List Str := ["vector", "first", "second", "many", "found", "i", "j", "c", "k", "f"]
abbrev p_change_of_product : List Str := ["vector", "first", "second"]
theorem sc_change_of_product : FnScope N_change_of_product p_change_of_product (defScope st_change_of_product) := ⟨rfl, rfl, rfl, by decide +kernel, rfl, by decide +kernel, by decide +kernel⟩
abbrev N_unit : List Str := ["size", "at", "found", "_"]
abbrev p_unit : List Str := ["size", "at"]
theorem sc_unit : FnScope N_unit p_unit (defScope st_unit) := ⟨rfl, rfl, rfl, by decide +kernel, rfl, by decide +kernel, by decide +kernel⟩
abbrev N_check : List Str := ["operators", "a"]
abbrev p_check : List Str := ["operators"]
theorem sc_check : FnScope N_check p_check (defScope st_check) := ⟨rfl, rfl, rfl, by decide +kernel, rfl, by decide +kernel, by decide +kernel⟩
abbrev N_of_sum : List Str := ["a", "b"]
abbrev p_of_sum : List Str := ["a", "b"]
theorem sc_of_sum : FnScope N_of_sum p_of_sum (defScope st_of_sum) := ⟨rfl, rfl, rfl, by decide +kernel, rfl, by decide +kernel, by decide +kernel⟩
abbrev N_of_image : List Str := ["a", "m"]
abbrev p_of_image : List Str := ["a", "m"]
theorem sc_of_image : FnScope N_of_image p_of_image (defScope st_of_image) := ⟨rfl, rfl, rfl, by decide +kernel, rfl, by decide +kernel, by decide +kernel⟩
abbrev N_of_product : List Str := ["a", "b", "first", "second", "size", "relation", "vector", "found"]
abbrev p_of_product : List Str := ["a", "b"]
theorem sc_of_product : FnScope N_of_product p_of_product (defScope st_of_product) := ⟨rfl, rfl, rfl, by decide +kernel, rfl, by decide +kernel, by decide +kernel⟩
abbrev N_monomials : List Str := ["size", "degree", "found", "k", "rest"]
abbrev p_monomials : List Str := ["size", "degree"]
theorem sc_monomials : FnScope N_monomials p_monomials (defScope st_monomials) := ⟨rfl, rfl, rfl, by decide +kernel, rfl, by decide +kernel, by decide +kernel⟩
abbrev N_exchanged : List Str := ["exponents", "old", "new", "found"]
abbrev p_exchanged : List Str := ["exponents", "old", "new"]
theorem sc_exchanged : FnScope N_exchanged p_exchanged (defScope st_exchanged) := ⟨rfl, rfl, rfl, by decide +kernel, rfl, by decide +kernel, by decide +kernel⟩
abbrev N_change_of_power : List Str := ["vector", "names", "row", "found", "at", "i", "c", "k", "f", "place"]
abbrev p_change_of_power : List Str := ["vector", "names", "row"]
theorem sc_change_of_power : FnScope N_change_of_power p_change_of_power (defScope st_change_of_power) := ⟨rfl, rfl, rfl, by decide +kernel, rfl, by decide +kernel, by decide +kernel⟩
abbrev N_count_monomials : List Str := ["size", "degree", "total", "k"]
abbrev p_count_monomials : List Str := ["size", "degree"]
theorem sc_count_monomials : FnScope N_count_monomials p_count_monomials (defScope st_count_monomials) := ⟨rfl, rfl, rfl, by decide +kernel, rfl, by decide +kernel, by decide +kernel⟩
abbrev N_of_power : List Str := ["a", "k", "most", "row", "names", "relation", "vector", "found"]
abbrev p_of_power : List Str := ["a", "k", "most"]
theorem sc_of_power : FnScope N_of_power p_of_power (defScope st_of_power) := ⟨rfl, rfl, rfl, by decide +kernel, rfl, by decide +kernel, by decide +kernel⟩
abbrev N_law_state : List Str := ["_law_script", "_law_seed", "_law_total", "_law_cell"]
abbrev p_law_state : List Str := ["_law_script"]
theorem sc_law_state : FnScope N_law_state p_law_state (defScope st_law_state) := ⟨rfl, rfl, rfl, by decide +kernel, rfl, by decide +kernel, by decide +kernel⟩
abbrev N_law_take : List Str := ["_law_state_here", "_law_m", "_law_value"]
abbrev p_law_take : List Str := ["_law_state_here", "_law_m"]
theorem sc_law_take : FnScope N_law_take p_law_take (defScope st_law_take) := ⟨rfl, rfl, rfl, by decide +kernel, rfl, by decide +kernel, by decide +kernel⟩
abbrev N_law_poly : List Str := ["_law_state_here", "_law_most", "_law_k"]
abbrev p_law_poly : List Str := ["_law_state_here", "_law_most"]
theorem sc_law_poly : FnScope N_law_poly p_law_poly (defScope st_law_poly) := ⟨rfl, rfl, rfl, by decide +kernel, rfl, by decide +kernel, by decide +kernel⟩
abbrev N_law_leading : List Str := ["_law_state_here", "_law_rows"]
abbrev p_law_leading : List Str := ["_law_state_here"]
theorem sc_law_leading : FnScope N_law_leading p_law_leading (defScope st_law_leading) := ⟨rfl, rfl, rfl, by decide +kernel, rfl, by decide +kernel, by decide +kernel⟩
abbrev N_law_operator : List Str := ["_law_state_here", "_law_most", "_law_order", "_law_items", "_law_k"]
abbrev p_law_operator : List Str := ["_law_state_here", "_law_most"]
theorem sc_law_operator : FnScope N_law_operator p_law_operator (defScope st_law_operator) := ⟨rfl, rfl, rfl, by decide +kernel, rfl, by decide +kernel, by decide +kernel⟩
abbrev N_law_function : List Str := ["_law_state_here", "_law_num", "_law_dens"]
abbrev p_law_function : List Str := ["_law_state_here"]
theorem sc_law_function : FnScope N_law_function p_law_function (defScope st_law_function) := ⟨rfl, rfl, rfl, by decide +kernel, rfl, by decide +kernel, by decide +kernel⟩
abbrev N_law_is_refused : List Str := ["_law_a", "_law_zero", "_law_count", "_law_turn"]
abbrev p_law_is_refused : List Str := ["_law_a"]
theorem sc_law_is_refused : FnScope N_law_is_refused p_law_is_refused (defScope st_law_is_refused) := ⟨rfl, rfl, rfl, by decide +kernel, rfl, by decide +kernel, by decide +kernel⟩
abbrev N_law_is_large : List Str := ["_law_a", "bad"]
abbrev p_law_is_large : List Str := ["_law_a"]
theorem sc_law_is_large : FnScope N_law_is_large p_law_is_large (defScope st_law_is_large) := ⟨rfl, rfl, rfl, by decide +kernel, rfl, by decide +kernel, by decide +kernel⟩
abbrev N_law : List Str := ["_law_script", "_law_state_here", "_law_a", "_law_u", "_law_f", "_law_one", "_law_pick", "_law_due", "_law_k"]
abbrev p_law : List Str := ["_law_script"]
theorem sc_law : FnScope N_law p_law (defScope st_law) := ⟨rfl, rfl, rfl, by decide +kernel, rfl, by decide +kernel, by decide +kernel⟩
abbrev N_R_init : List Str := ["self", "n", "d", "common"]
abbrev p_R_init : List Str := ["self", "n", "d"]
theorem sc_R_init : FnScope N_R_init p_R_init (defScope st_R_init) := ⟨rfl, rfl, rfl, by decide +kernel, rfl, by decide +kernel, by decide +kernel⟩
abbrev N_R_add : List Str := ["self", "other"]
abbrev p_R_add : List Str := ["self", "other"]
theorem sc_R_add : FnScope N_R_add p_R_add (defScope st_R_add) := ⟨rfl, rfl, rfl, by decide +kernel, rfl, by decide +kernel, by decide +kernel⟩
abbrev N_R_sub : List Str := ["self", "other"]
abbrev p_R_sub : List Str := ["self", "other"]
theorem sc_R_sub : FnScope N_R_sub p_R_sub (defScope st_R_sub) := ⟨rfl, rfl, rfl, by decide +kernel, rfl, by decide +kernel, by decide +kernel⟩
abbrev N_R_mul : List Str := ["self", "other"]
abbrev p_R_mul : List Str := ["self", "other"]
theorem sc_R_mul : FnScope N_R_mul p_R_mul (defScope st_R_mul) := ⟨rfl, rfl, rfl, by decide +kernel, rfl, by decide +kernel, by decide +kernel⟩
abbrev N_R_neg : List Str := ["self"]
abbrev p_R_neg : List Str := ["self"]
theorem sc_R_neg : FnScope N_R_neg p_R_neg (defScope st_R_neg) := ⟨rfl, rfl, rfl, by decide +kernel, rfl, by decide +kernel, by decide +kernel⟩
abbrev N_R_eq : List Str := ["self", "other"]
abbrev p_R_eq : List Str := ["self", "other"]
theorem sc_R_eq : FnScope N_R_eq p_R_eq (defScope st_R_eq) := ⟨rfl, rfl, rfl, by decide +kernel, rfl, by decide +kernel, by decide +kernel⟩
abbrev N_R_inverse : List Str := ["self"]
abbrev p_R_inverse : List Str := ["self"]
theorem sc_R_inverse : FnScope N_R_inverse p_R_inverse (defScope st_R_inverse) := ⟨rfl, rfl, rfl, by decide +kernel, rfl, by decide +kernel, by decide +kernel⟩
abbrev N_P_init : List Str := ["self", "row", "c"]
abbrev p_P_init : List Str := ["self", "row"]
theorem sc_P_init : FnScope N_P_init p_P_init (defScope st_P_init) := ⟨rfl, rfl, rfl, by decide +kernel, rfl, by decide +kernel, by decide +kernel⟩
abbrev N_P_add : List Str := ["self", "other", "long", "short", "out", "a", "b"]
abbrev p_P_add : List Str := ["self", "other"]
theorem sc_P_add : FnScope N_P_add p_P_add (defScope st_P_add) := ⟨rfl, rfl, rfl, by decide +kernel, rfl, by decide +kernel, by decide +kernel⟩
abbrev N_P_neg : List Str := ["self", "c"]
abbrev p_P_neg : List Str := ["self"]
theorem sc_P_neg : FnScope N_P_neg p_P_neg (defScope st_P_neg) := ⟨rfl, rfl, rfl, by decide +kernel, rfl, by decide +kernel, by decide +kernel⟩
abbrev N_P_sub : List Str := ["self", "other"]
abbrev p_P_sub : List Str := ["self", "other"]
theorem sc_P_sub : FnScope N_P_sub p_P_sub (defScope st_P_sub) := ⟨rfl, rfl, rfl, by decide +kernel, rfl, by decide +kernel, by decide +kernel⟩
abbrev N_P_mul : List Str := ["self", "other", "out", "at", "a", "k", "b", "_"]
abbrev p_P_mul : List Str := ["self", "other"]
theorem sc_P_mul : FnScope N_P_mul p_P_mul (defScope st_P_mul) := ⟨rfl, rfl, rfl, by decide +kernel, rfl, by decide +kernel, by decide +kernel⟩
abbrev N_P_eq : List Str := ["self", "other"]
abbrev p_P_eq : List Str := ["self", "other"]
theorem sc_P_eq : FnScope N_P_eq p_P_eq (defScope st_P_eq) := ⟨rfl, rfl, rfl, by decide +kernel, rfl, by decide +kernel, by decide +kernel⟩
abbrev N_P_floordiv : List Str := ["self", "other"]
abbrev p_P_floordiv : List Str := ["self", "other"]
theorem sc_P_floordiv : FnScope N_P_floordiv p_P_floordiv (defScope st_P_floordiv) := ⟨rfl, rfl, rfl, by decide +kernel, rfl, by decide +kernel, by decide +kernel⟩
abbrev N_P_divided : List Str := ["self", "other", "inverse", "rest", "size", "out", "k", "factor", "at", "c", "_"]
abbrev p_P_divided : List Str := ["self", "other"]
theorem sc_P_divided : FnScope N_P_divided p_P_divided (defScope st_P_divided) := ⟨rfl, rfl, rfl, by decide +kernel, rfl, by decide +kernel, by decide +kernel⟩
abbrev N_P_degree : List Str := ["self"]
abbrev p_P_degree : List Str := ["self"]
theorem sc_P_degree : FnScope N_P_degree p_P_degree (defScope st_P_degree) := ⟨rfl, rfl, rfl, by decide +kernel, rfl, by decide +kernel, by decide +kernel⟩
abbrev N_P_is_zero : List Str := ["self"]
abbrev p_P_is_zero : List Str := ["self"]
theorem sc_P_is_zero : FnScope N_P_is_zero p_P_is_zero (defScope st_P_is_zero) := ⟨rfl, rfl, rfl, by decide +kernel, rfl, by decide +kernel, by decide +kernel⟩
abbrev N_P_last : List Str := ["self"]
abbrev p_P_last : List Str := ["self"]
theorem sc_P_last : FnScope N_P_last p_P_last (defScope st_P_last) := ⟨rfl, rfl, rfl, by decide +kernel, rfl, by decide +kernel, by decide +kernel⟩
abbrev N_P_scaled : List Str := ["self", "r", "c"]
abbrev p_P_scaled : List Str := ["self", "r"]
theorem sc_P_scaled : FnScope N_P_scaled p_P_scaled (defScope st_P_scaled) := ⟨rfl, rfl, rfl, by decide +kernel, rfl, by decide +kernel, by decide +kernel⟩
abbrev N_P_monic : List Str := ["self"]
abbrev p_P_monic : List Str := ["self"]
theorem sc_P_monic : FnScope N_P_monic p_P_monic (defScope st_P_monic) := ⟨rfl, rfl, rfl, by decide +kernel, rfl, by decide +kernel, by decide +kernel⟩
abbrev N_P_derivative : List Str := ["self", "k"]
abbrev p_P_derivative : List Str := ["self"]
theorem sc_P_derivative : FnScope N_P_derivative p_P_derivative (defScope st_P_derivative) := ⟨rfl, rfl, rfl, by decide +kernel, rfl, by decide +kernel, by decide +kernel⟩
abbrev N_P_primitive : List Str := ["self", "scale", "common", "c", "numbers"]
abbrev p_P_primitive : List Str := ["self"]
theorem sc_P_primitive : FnScope N_P_primitive p_P_primitive (defScope st_P_primitive) := ⟨rfl, rfl, rfl, by decide +kernel, rfl, by decide +kernel, by decide +kernel⟩
abbrev N_F_init : List Str := ["self", "num", "den", "common", "low", "scale"]
abbrev p_F_init : List Str := ["self", "num", "den"]
theorem sc_F_init : FnScope N_F_init p_F_init (defScope st_F_init) := ⟨rfl, rfl, rfl, by decide +kernel, rfl, by decide +kernel, by decide +kernel⟩
abbrev N_F_eq : List Str := ["self", "other"]
abbrev p_F_eq : List Str := ["self", "other"]
theorem sc_F_eq : FnScope N_F_eq p_F_eq (defScope st_F_eq) := ⟨rfl, rfl, rfl, by decide +kernel, rfl, by decide +kernel, by decide +kernel⟩
abbrev N_F_add : List Str := ["self", "other"]
abbrev p_F_add : List Str := ["self", "other"]
theorem sc_F_add : FnScope N_F_add p_F_add (defScope st_F_add) := ⟨rfl, rfl, rfl, by decide +kernel, rfl, by decide +kernel, by decide +kernel⟩
abbrev N_F_sub : List Str := ["self", "other"]
abbrev p_F_sub : List Str := ["self", "other"]
theorem sc_F_sub : FnScope N_F_sub p_F_sub (defScope st_F_sub) := ⟨rfl, rfl, rfl, by decide +kernel, rfl, by decide +kernel, by decide +kernel⟩
abbrev N_F_mul : List Str := ["self", "other"]
abbrev p_F_mul : List Str := ["self", "other"]
theorem sc_F_mul : FnScope N_F_mul p_F_mul (defScope st_F_mul) := ⟨rfl, rfl, rfl, by decide +kernel, rfl, by decide +kernel, by decide +kernel⟩
abbrev N_F_neg : List Str := ["self"]
abbrev p_F_neg : List Str := ["self"]
theorem sc_F_neg : FnScope N_F_neg p_F_neg (defScope st_F_neg) := ⟨rfl, rfl, rfl, by decide +kernel, rfl, by decide +kernel, by decide +kernel⟩
abbrev N_F_floordiv : List Str := ["self", "other"]
abbrev p_F_floordiv : List Str := ["self", "other"]
theorem sc_F_floordiv : FnScope N_F_floordiv p_F_floordiv (defScope st_F_floordiv) := ⟨rfl, rfl, rfl, by decide +kernel, rfl, by decide +kernel, by decide +kernel⟩
abbrev N_F_is_zero : List Str := ["self"]
abbrev p_F_is_zero : List Str := ["self"]
theorem sc_F_is_zero : FnScope N_F_is_zero p_F_is_zero (defScope st_F_is_zero) := ⟨rfl, rfl, rfl, by decide +kernel, rfl, by decide +kernel, by decide +kernel⟩
abbrev N_F_derivative : List Str := ["self", "top"]
abbrev p_F_derivative : List Str := ["self"]
theorem sc_F_derivative : FnScope N_F_derivative p_F_derivative (defScope st_F_derivative) := ⟨rfl, rfl, rfl, by decide +kernel, rfl, by decide +kernel, by decide +kernel⟩
abbrev N_F_inverse : List Str := ["self"]
abbrev p_F_inverse : List Str := ["self"]
theorem sc_F_inverse : FnScope N_F_inverse p_F_inverse (defScope st_F_inverse) := ⟨rfl, rfl, rfl, by decide +kernel, rfl, by decide +kernel, by decide +kernel⟩
abbrev N_O_init : List Str := ["self", "coefficients", "size"]
abbrev p_O_init : List Str := ["self", "coefficients"]
theorem sc_O_init : FnScope N_O_init p_O_init (defScope st_O_init) := ⟨rfl, rfl, rfl, by decide +kernel, rfl, by decide +kernel, by decide +kernel⟩
abbrev N_O_eq : List Str := ["self", "other"]
abbrev p_O_eq : List Str := ["self", "other"]
theorem sc_O_eq : FnScope N_O_eq p_O_eq (defScope st_O_eq) := ⟨rfl, rfl, rfl, by decide +kernel, rfl, by decide +kernel, by decide +kernel⟩
abbrev N_O_getitem : List Str := ["self", "at"]
abbrev p_O_getitem : List Str := ["self", "at"]
theorem sc_O_getitem : FnScope N_O_getitem p_O_getitem (defScope st_O_getitem) := ⟨rfl, rfl, rfl, by decide +kernel, rfl, by decide +kernel, by decide +kernel⟩
abbrev N_O_add : List Str := ["self", "other"]
abbrev p_O_add : List Str := ["self", "other"]
theorem sc_O_add : FnScope N_O_add p_O_add (defScope st_O_add) := ⟨rfl, rfl, rfl, by decide +kernel, rfl, by decide +kernel, by decide +kernel⟩
abbrev N_O_neg : List Str := ["self", "c"]
abbrev p_O_neg : List Str := ["self"]
theorem sc_O_neg : FnScope N_O_neg p_O_neg (defScope st_O_neg) := ⟨rfl, rfl, rfl, by decide +kernel, rfl, by decide +kernel, by decide +kernel⟩
abbrev N_O_sub : List Str := ["self", "other", "c"]
abbrev p_O_sub : List Str := ["self", "other"]
theorem sc_O_sub : FnScope N_O_sub p_O_sub (defScope st_O_sub) := ⟨rfl, rfl, rfl, by decide +kernel, rfl, by decide +kernel, by decide +kernel⟩
abbrev N_O_mul : List Str := ["self", "other"]
abbrev p_O_mul : List Str := ["self", "other"]
theorem sc_O_mul : FnScope N_O_mul p_O_mul (defScope st_O_mul) := ⟨rfl, rfl, rfl, by decide +kernel, rfl, by decide +kernel, by decide +kernel⟩
abbrev N_O_order : List Str := ["self"]
abbrev p_O_order : List Str := ["self"]
theorem sc_O_order : FnScope N_O_order p_O_order (defScope st_O_order) := ⟨rfl, rfl, rfl, by decide +kernel, rfl, by decide +kernel, by decide +kernel⟩
abbrev N_O_is_zero : List Str := ["self"]
abbrev p_O_is_zero : List Str := ["self"]
theorem sc_O_is_zero : FnScope N_O_is_zero p_O_is_zero (defScope st_O_is_zero) := ⟨rfl, rfl, rfl, by decide +kernel, rfl, by decide +kernel, by decide +kernel⟩
abbrev N_O_leading : List Str := ["self"]
abbrev p_O_leading : List Str := ["self"]
theorem sc_O_leading : FnScope N_O_leading p_O_leading (defScope st_O_leading) := ⟨rfl, rfl, rfl, by decide +kernel, rfl, by decide +kernel, by decide +kernel⟩
abbrev N_O_monic : List Str := ["self"]
abbrev p_O_monic : List Str := ["self"]
theorem sc_O_monic : FnScope N_O_monic p_O_monic (defScope st_O_monic) := ⟨rfl, rfl, rfl, by decide +kernel, rfl, by decide +kernel, by decide +kernel⟩
abbrev N_O_scaled : List Str := ["self", "f"]
abbrev p_O_scaled : List Str := ["self", "f"]
theorem sc_O_scaled : FnScope N_O_scaled p_O_scaled (defScope st_O_scaled) := ⟨rfl, rfl, rfl, by decide +kernel, rfl, by decide +kernel, by decide +kernel⟩
abbrev N_O_after : List Str := ["self", "f"]
abbrev p_O_after : List Str := ["self", "f"]
theorem sc_O_after : FnScope N_O_after p_O_after (defScope st_O_after) := ⟨rfl, rfl, rfl, by decide +kernel, rfl, by decide +kernel, by decide +kernel⟩
abbrev N_O_divide : List Str := ["self", "m", "q", "r", "term"]
abbrev p_O_divide : List Str := ["self", "m"]
theorem sc_O_divide : FnScope N_O_divide p_O_divide (defScope st_O_divide) := ⟨rfl, rfl, rfl, by decide +kernel, rfl, by decide +kernel, by decide +kernel⟩
abbrev N_O_moved : List Str := ["self", "u", "total", "power", "c"]
abbrev p_O_moved : List Str := ["self", "u"]
theorem sc_O_moved : FnScope N_O_moved p_O_moved (defScope st_O_moved) := ⟨rfl, rfl, rfl, by decide +kernel, rfl, by decide +kernel, by decide +kernel⟩
abbrev N_L_init : List Str := ["self", "width"]
abbrev p_L_init : List Str := ["self", "width"]
theorem sc_L_init : FnScope N_L_init p_L_init (defScope st_L_init) := ⟨rfl, rfl, rfl, by decide +kernel, rfl, by decide +kernel, by decide +kernel⟩
abbrev N_L_insert : List Str := ["self", "vector", "weights", "pivot", "row", "old", "factor", "k", "scale", "_", "c"]
abbrev p_L_insert : List Str := ["self", "vector"]
theorem sc_L_insert : FnScope N_L_insert p_L_insert (defScope st_L_insert) := ⟨rfl, rfl, rfl, by decide +kernel, rfl, by decide +kernel, by decide +kernel⟩
end K31
set_option Elab.async false
set_option linter.all false
set_option maxRecDepth 100000
set_option maxHeartbeats 0
namespace K31
open PySem PySem.Spec L2
abbrev RR : PySem.W.OpenRow := PySem.W.OpenLaw.row ROW
def ob (s : PySem.W.SharedT) : AlM := obsM exB (HandSHeadRun.getT s)
theorem ob_eq (s : PySem.W.SharedT) : ob s = hk.obs s.abs := by
  have e : HandSHeadRun.getT s = s.abs.heap.get? := funext (HandSHeadRun.getT_eq s)
  show obsM exB (HandSHeadRun.getT s) = obsM exB s.abs.heap.get?
  rw [e]
def names1 : List Str := ["_wall", "Fault", "ZeroDivisor", "Refused", "PIECE", "written_integer", "Ratio", "zero", "one", "_trimmed", "Poly", "constant", "_primitive_row", "_integer_rest", "common_divisor", "RatFun", "of_poly", "of_ratio", "add_rows", "scale_row", "advance_row", "multiply_rows", "Operator", "of_function", "monomial", "first_order", "euclid", "left_multiple", "quotient"]
def names2 : List Str := ["Relation", "tail", "raised", "change_of_product", "unit", "check", "of_sum", "of_image", "of_product", "monomials", "exchanged", "change_of_power", "count_monomials", "of_power", "_law_state", "_law_take", "_law_poly", "_law_leading", "_law_operator", "_law_function", "_law_is_refused", "_law_is_large", "__name__"]
def names : List Str := names1 ++ names2
theorem run (w : World) : HandSHeadRun.RunEqI RR (PySem.W.view RR.prog [0, 61]) hk ob 20000 names w := by
  unfold HandSHeadRun.RunEqI
  kernel_rfl
end K31
set_option Elab.async false
set_option linter.all false
set_option maxRecDepth 100000
set_option maxHeartbeats 1000000
/-! T5: arithmetic of any size, isinstance, slices, pairs. -/
namespace K31
open PySem PySem.Spec L2
section
variable {X : Cx} {G : Ctx} {M : MCtx} {P Pa Pb Pc : VP} {a b c e : Expr} {pos : Pos} {Ps Qs : List VP}
theorem o_mul {i j : Int} (h : CMulX i j) : OpT X (binaryOp .Mult) (vI i) (vI j) (vI (i * j)) := opT_of op_mulX fun x y H e e' Q q => ⟨i, j, e, e', h, q _ H (Same.refl H) rfl⟩
/-- where a division of any size has room -/
structure DivOk (X : Cx) : Prop where
  tree : X.prog.given.tree = none
  seer : seerB X.K = true
  dp : X.A.depth + Builtin.pylongFrames < recursionLimit
  st : ∃ e l, X.stack = e :: l ∧ e.scope.isGenerator = false ∧ e.scope.isCoroutine = false ∧ e.builtins = builtinsNs ∧ e.globals = mainGlobals
theorem DivOk.at_ (D : DivOk X) {pins : List (Addr × Obj)} {t : L2.St} {H : Hp} {s : Shared} (I : Inv X pins t H s) : SeerAt (model X.prog X.w) X.A s.heap := by
  obtain ⟨e, l, h1, h2, h3, h4, h5⟩ := D.st
  exact SeerAt.of ((seer_ok I.ok.mod D.seer).keeps I.bk) D.tree (I.ok.frames.trans (congrArg some h1)) h2 h3 h4 h5
theorem DivOk.room (D : DivOk X) {pins : List (Addr × Obj)} {t : L2.St} {H : Hp} {s : Shared} (I : Inv X pins t H s) : PylongRoom (model X.prog X.w) X.A s :=
  PylongRoom.of I.nolimit D.dp (D.at_ I)
theorem o_fdiv (D : DivOk X) {i j : Int} (hj : j ≠ 0) : OpT X (binaryOp .FloorDiv) (vI i) (vI j) (vI (i.fdiv j)) := by
  intro pins s t H x y v u Q I rx ry w
  obtain ⟨e, e', q⟩ := w
  have e : x = .int i := e
  have e' : y = .int j := e'
  subst e e'
  obtain ⟨t1, rfl⟩ := rx
  obtain ⟨t2, rfl⟩ := ry
  exact PyProof.Rows.floordiv_int hj ⟨.int (i.fdiv j), H, I.tok _, ⟨_, rfl⟩, q _ H (Same.refl H) rfl⟩ (.inr (D.room I))
/-- an exact quotient -/
theorem o_fdivX (D : DivOk X) {i j k : Int} (hj : j ≠ 0) (e : i = k * j) : OpT X (binaryOp .FloorDiv) (vI i) (vI j) (vI k) := by
  have : i.fdiv j = k := by rw [e, Int.mul_fdiv_cancel _ hj]
  rw [← this]
  exact o_fdiv D hj
theorem int_dvd_mul (a g : Int) (h : g ∣ a) : a = a / g * g := (Int.ediv_mul_cancel h).symm
/-! lcm -/
theorem pylongInv {M : Model} {A : Around} {s : Shared} {n : Nat} {E : Value → Shared → Prop} {Q : Unit → Shared → Prop} (hs : SeerAt M A s.heap) (hl : s.heap.NoLimit) (hd : A.depth + Builtin.pylongFrames < recursionLimit) (h : Q () s) (u : Nat) :
    wpAny M { A with units := u } (Builtin.roomForPylongsInverse n) Q E s := by
  unfold Builtin.roomForPylongsInverse
  by_cases hb : n.log2 / 30 + 1 > 450
  · rw [if_pos hb]
    refine wpAny_bind (hs u s E _ rfl ?_)
    exact wpAny_pylongFrames (A := { A with units := u }) hl hd h
  · rw [if_neg hb]
    exact wpAny_pure h
theorem lcm_run {P : Program} {w : World} {A : Around} {s : Shared} {a b : Int} {t u : Tok} {R : Result → Shared → Prop} (hs : SeerAt (model P w) A s.heap) (hl : s.heap.NoLimit) (hd : A.depth + Builtin.pylongFrames < recursionLimit)
    (hsz : ((((Nat.lcm 1 a.natAbs).lcm b.natAbs : Nat) : Int)).natAbs.log2 < bitsLine) (h : R (.ok (.ret (.int (((Nat.lcm 1 a.natAbs).lcm b.natAbs : Nat) : Int) s.toks))) { s with toks := s.toks + 1 }) :
    wpAny (model P w) A.in1 (Builtin.«math.lcm» ⟨[.int a t, .int b u], []⟩) (fun fin s' => match fin with | .done f => R (.ok f) s' | .again c' => c'.quiet = true ∧ codeAny (model P w) A c' R s') (fun e s' => R (.error e) s') s := by
  have pl : ∀ (n : Nat) (E : Value → Shared → Prop) (Q : Unit → Shared → Prop), Q () s → wpAny (model P w) A.in1 (Builtin.roomForPylongsInverse n) Q E s := fun n E Q h => pylongInv (A := A) hs hl hd h A.in1.units
  obtain ⟨hp, g, d, tk, os⟩ := s
  wp_walk
  refine pl _ _ _ ?_
  wp_walk
  refine pl _ _ _ ?_
  wp_walk
  refine wpAny_ite_false (decide_eq_false (Nat.not_le.mpr hsz)) ?_
  wp_walk
  exact h
theorem log2_lt {n k : Nat} (h : n < 2 ^ k) (hk : 0 < k) : n.log2 < k := by
  by_cases h0 : n = 0
  · subst h0; rw [Nat.log2_zero]; exact hk
  · exact (Nat.log2_lt h0).mpr h
theorem c_lcm (D : DivOk X) {i l : Int} {k : Nat} (hk : 0 < k) (hk2 : k ≤ bitsLine) (hz : Nat.lcm i.natAbs l.natAbs < 2 ^ k) : CbT X (.builtin "math.lcm") [vI i, vI l] (vI ((Nat.lcm i.natAbs l.natAbs : Nat) : Int)) := by
  intro pins s t H vs us Q I r w
  obtain ⟨its, q⟩ := w
  obtain ⟨x, y, rfl, e1, e2⟩ := it2 its
  have e1 : x = .int i := e1
  have e2 : y = .int l := e2
  subst e1 e2
  obtain ⟨t1, t2, rfl⟩ := Vals.int2 r
  have e3 : (Nat.lcm 1 i.natAbs).lcm l.natAbs = Nat.lcm i.natAbs l.natAbs := by rw [Nat.lcm_one_left]
  have fin : EP X pins t Q (.int ((Nat.lcm i.natAbs l.natAbs : Nat) : Int) s.toks) { s with toks := s.toks + 1 } := ⟨.int _, H, I.tok _, ⟨_, rfl⟩, q _ H (Same.refl H) rfl⟩
  rw [← e3] at fin
  have hfin := lcm_run (P := X.prog) (w := X.w) (A := X.A) (s := s) (a := i) (b := l) (t := t1) (u := t2) (R := wants (EP X pins t Q) X.xe) (D.at_ I) I.nolimit D.dp (by rw [e3, Int.natAbs_natCast]; exact Nat.lt_of_lt_of_le (log2_lt hz hk) hk2) fin
  refine wpAny_call (codeAny_call_builtin PySem.W.MGF.plain_lcm PySem.W.MGF.entry_lcm ?_)
  have ok := PySem.W.MGF.args_lcm (.int i t1) (.int l t2)
  simp only [checkBuiltinCall, PySem.W.MGF.kind_lcm]
  cases hsig : Manifest.signature? "math.lcm" with
  | none => exact wpAny_pure hfin
  | some sig =>
    simp only [argsOk, hsig] at ok
    have h2 : Bind.checkArgs "math.lcm" sig ⟨[.int i t1, .int l t2], []⟩ = pure () := ok
    show wpAny _ _ (Bind.checkArgs "math.lcm" sig ⟨[.int i t1, .int l t2], []⟩) _ _ s
    rw [h2]; exact wpAny_pure hfin

/-! ### names, isinstance -/
variable {x : Str} {p : Pos} {C : Addr} {fs : List (Str × VP)}
theorem e_glo {v : V} {u : Value} (hg : Gl X x) (hm : X.mg x = some u) (r : RelV v u) (hd : (x == ("__debug__" : Str)) = false := by decide) : TyE X (.Name x pos) G M (vC v) := e_c (pe_glob hg hm r hd)
theorem e_cls (hg : Gl X x) (hm : X.mg x = some (.ref C)) (hd : (x == ("__debug__" : Str)) = false := by decide) : TyE X (.Name x pos) G M (vAt C) := e_glo hg hm rfl hd
theorem e_ty {n : String} (hg : Gl X x) (hm : X.mg x = none) (hv : bootBuiltins x = some (.type n)) (hn : x ≠ "__name__" := by decide) (hd : (x == ("__debug__" : Str)) = false := by decide) : TyE X (.Name x pos) G M (vTy n) := e_c (pe_bltn hg hm hv rfl hn hd)
theorem c_isI {i : Int} : CbT X (.builtin "isinstance") [vI i, vTy "int"] (vB true) := cbT_of call_isi fun vs H h Q q => by
  obtain ⟨x, y, rfl, e1, e2⟩ := it2 h
  exact ⟨x, y, .type "int", .type "int", true, rfl, by rw [e2]; exact .ty "int", by rw [e1]; exact .base (.int i), kit_ty (by decide +kernel), q _ H (Same.refl H) rfl⟩
theorem tyx_ins {K : PySem.W.Frag} {v : V} {H : Hp} (h : (vIn C fs).p v H) (c : Cls K C) (i : Ins K C) (hn : PySem.W.specialIn K (.builtin "object.__class__") "__get__" = some (some (.builtin "getset_descriptor.__get__"))) (htk : PySem.W.takesIn K (.builtin "object.__class__") = some true) : TyX K H v (.ref C) := by
  obtain ⟨a, dx, gs, rfl, e, _⟩ := h
  exact .base (.ins e c i.ha hn htk i.hm)
theorem c_isT {n : String} {b : Bool} (c : Cls X.K C) (i : Ins X.K C) (hn : PySem.W.specialIn X.K (.builtin "object.__class__") "__get__" = some (some (.builtin "getset_descriptor.__get__"))) (htk : PySem.W.takesIn X.K (.builtin "object.__class__") = some true)
    (hk : PySem.W.kitOne X.K (.ref C) (.type n) = some b) : CbT X (.builtin "isinstance") [vIn C fs, vTy n] (vB b) := cbT_of call_isi fun vs H h Q q => by
  obtain ⟨x, y, rfl, e1, e2⟩ := it2 h
  exact ⟨x, y, .ref C, .type n, b, rfl, by rw [e2]; exact .ty n, tyx_ins e1 c i hn htk, hk, q _ H (Same.refl H) rfl⟩
theorem c_isO (c : Cls X.K C) (i : Ins X.K C) (hn : PySem.W.specialIn X.K (.builtin "object.__class__") "__get__" = some (some (.builtin "getset_descriptor.__get__"))) (htk : PySem.W.takesIn X.K (.builtin "object.__class__") = some true) :
    CbT X (.builtin "isinstance") [vIn C fs, vAt C] (vB true) := cbT_of call_isi fun vs H h Q q => by
  obtain ⟨x, y, rfl, e1, e2⟩ := it2 h
  exact ⟨x, y, .ref C, .ref C, true, rfl, by rw [e2]; exact .own C, tyx_ins e1 c i hn htk, i.me, q _ H (Same.refl H) rfl⟩
/-! ### slices -/
theorem cut_to (xs : List V) (k : Nat) : cutV xs none (some (k : Int)) = xs.take k := by
  unfold cutV
  have e1 : HT.sIx xs.length 0 none = 0 := by simp [HT.sIx]
  have e2 : HT.sIx xs.length xs.length (some (k : Int)) = min k xs.length := by
    simp only [HT.sIx]
    split <;> omega
  rw [e1, e2, List.drop_zero, Nat.sub_zero]
  rcases Nat.le_total k xs.length with h | h
  · rw [Nat.min_eq_left h]
  · rw [Nat.min_eq_right h, List.take_of_length_le (Nat.le_refl _), List.take_of_length_le h]
theorem cut_from (xs : List V) (k : Nat) : cutV xs (some (k : Int)) none = xs.drop k := by
  unfold cutV
  have e1 : HT.sIx xs.length xs.length none = xs.length := by simp [HT.sIx]
  have e2 : HT.sIx xs.length 0 (some (k : Int)) = min k xs.length := by
    simp only [HT.sIx]
    split <;> omega
  rw [e1, e2]
  rcases Nat.le_total k xs.length with h | h
  · rw [Nat.min_eq_left h, List.take_of_length_le (by rw [List.length_drop]; exact Nat.le_refl _)]
  · rw [Nat.min_eq_right h, List.drop_of_length_le (Nat.le_refl _), List.drop_of_length_le h]; simp
theorem rdPart {t : L2.St} {H : Hp} {Q : Option Int → Hp → Prop} {i : Int} (h : rd G M (vI i) t H fun x H1 => x = .int i ∧ Q (some i) H1) : tPart (rd G M (vI i)) t H Q := by
  obtain ⟨Hf, o, m, k⟩ := h
  exact ⟨Hf, o, m, fun v Hf' H' s m' p => ⟨i, p, (k v Hf' H' s m' p).2⟩⟩
theorem e_slT1 {k : Nat} {p2 : Pos} (ha : TyE X a G M (vTu Ps)) (hb : TyE X b G M (vI (k : Int))) : TyE X (.Subscript a (.Slice none (some b) none p2) pos) G M (vTu (Ps.take k)) :=
  PE.imp (pe_slice sl_tupA ha po_none (po_some hb)) fun t H Q ⟨Hf, o, m, q⟩ => ⟨Hf, o, m, fun v Hf' H' s m' pv => ⟨Hf', o.mono s, m', fun w Hf2 H2 s2 m2 (pw : w = .int k) => ⟨k, pw, by
    obtain ⟨ad, xs, rfl, hx, its⟩ := pv
    refine ⟨ad, xs, rfl, SqT.of (m2.same _ _ (s2 _ _ hx)), fun h => ?_, fun h p hp => ?_⟩
    · refine q _ Hf2 H2 (s.trans s2) m2 ⟨ad, xs, rfl, s2 _ _ hx, ?_⟩
      have hk : xs.length ≤ k := by
        have h2 := h.2
        simp only [HT.sIx] at h2
        split at h2 <;> omega
      rw [List.take_of_length_le (by rw [← its.len]; exact hk)]
      exact its.mono s2
    · rw [cut_to]
      exact q _ (upd Hf2 p _) _ ((s.trans s2).trans (same_upd (m2.free hp))) (m2.new hp) ⟨p, _, rfl, upd_same, (its.mono (s2.trans (same_upd (m2.free hp)))).take k⟩⟩⟩⟩
theorem e_slT2 {k : Nat} {p2 : Pos} (ha : TyE X a G M (vTu Ps)) (hb : TyE X b G M (vI (k : Int))) : TyE X (.Subscript a (.Slice (some b) none none p2) pos) G M (vTu (Ps.drop k)) :=
  PE.imp (pe_slice sl_tupA ha (po_some hb) po_none) fun t H Q ⟨Hf, o, m, q⟩ => ⟨Hf, o, m, fun v Hf' H' s m' pv => ⟨Hf', o.mono s, m', fun w Hf2 H2 s2 m2 (pw : w = .int k) => ⟨k, pw, by
    obtain ⟨ad, xs, rfl, hx, its⟩ := pv
    refine ⟨ad, xs, rfl, SqT.of (m2.same _ _ (s2 _ _ hx)), fun h => ?_, fun h p hp => ?_⟩
    · refine q _ Hf2 H2 (s.trans s2) m2 ⟨ad, xs, rfl, s2 _ _ hx, ?_⟩
      have hk : k = 0 ∨ xs.length = 0 := by
        have h2 := h.1
        simp only [HT.sIx] at h2
        split at h2 <;> omega
      have e : Ps.drop k = Ps := by
        rcases hk with e | e
        · rw [e, List.drop_zero]
        · have : Ps = [] := by
            rw [its.len] at e
            exact List.length_eq_zero_iff.mp e
          rw [this, List.drop_nil]
      rw [e]
      exact its.mono s2
    · rw [cut_from]
      exact q _ (upd Hf2 p _) _ ((s.trans s2).trans (same_upd (m2.free hp))) (m2.new hp) ⟨p, _, rfl, upd_same, (its.mono (s2.trans (same_upd (m2.free hp)))).drop k⟩⟩⟩⟩
theorem e_slL1 {k : Nat} {p2 : Pos} (ha : TyE X a G M (vLs Ps)) (hb : TyE X b G M (vI (k : Int))) : TyE X (.Subscript a (.Slice none (some b) none p2) pos) G M (vLs (Ps.take k)) :=
  PE.imp (pe_slice sl_list ha po_none (po_some hb)) fun t H Q ⟨Hf, o, m, q⟩ => ⟨Hf, o, m, fun v Hf' H' s m' pv => ⟨Hf', o.mono s, m', fun w Hf2 H2 s2 m2 (pw : w = .int k) => ⟨k, pw, by
    obtain ⟨ad, xs, rfl, hx, its⟩ := pv
    refine ⟨ad, xs, rfl, SqL.of (m2.same _ _ (s2 _ _ hx)), fun p hp => ?_⟩
    rw [cut_to]
    exact q _ (upd Hf2 p _) _ ((s.trans s2).trans (same_upd (m2.free hp))) (m2.new hp) ⟨p, _, rfl, upd_same, (its.mono (s2.trans (same_upd (m2.free hp)))).take k⟩⟩⟩⟩
theorem e_slM1 (l : Nat) {ad : Addr} {k : Nat} {p2 : Pos} (hM : M[l]? = some (.l ad Ps)) (ha : TyE X a G M (vAt ad)) (hb : TyE X b G M (vI (k : Int))) : TyE X (.Subscript a (.Slice none (some b) none p2) pos) G M (vLs (Ps.take k)) :=
  PE.imp (pe_slice sl_list ha po_none (po_some hb)) fun t H Q ⟨Hf, o, m, q⟩ => ⟨Hf, o, m, fun v Hf' H' s m' (pv : v = .ref ad) => ⟨Hf', o.mono s, m', fun w Hf2 H2 s2 m2 (pw : w = .int k) => ⟨k, pw, by
    obtain ⟨xs, hx, its⟩ := m2.at_ hM
    refine ⟨ad, xs, pv, SqL.of hx, fun p hp => ?_⟩
    rw [cut_to]
    exact q _ (upd Hf2 p _) _ ((s.trans s2).trans (same_upd (m2.free hp))) (m2.new hp) ⟨p, _, rfl, upd_same, (its.mono (same_upd (m2.free hp))).take k⟩⟩⟩⟩
/-! ### concatenation -/
theorem o_catL (hl : Ps.length + Qs.length ≤ 100000) : OpT X (binaryOp .Add) (vLs Ps) (vLs Qs) (vLs (Ps ++ Qs)) := opT_of op_cat fun x y H e e' Q q => by
  obtain ⟨a, xs, rfl, hx, its⟩ := e
  obtain ⟨b, ys, rfl, hy, its2⟩ := e'
  exact ⟨a, b, xs, ys, rfl, rfl, hx, hy, by rw [its.len, its2.len]; exact Nat.le_trans hl (by decide), fun p hp => q _ _ (same_upd hp) ⟨p, _, rfl, upd_same, (its.append its2).mono (same_upd hp)⟩⟩
theorem o_catT (hl : Ps.length + Qs.length ≤ 100000) : OpT X (binaryOp .Add) (vTu Ps) (vTu Qs) (vTu (Ps ++ Qs)) := opT_of op_catA fun x y H e e' Q q => by
  obtain ⟨a, xs, rfl, hx, its⟩ := e
  obtain ⟨b, ys, rfl, hy, its2⟩ := e'
  have its3 := its.append its2
  refine ⟨a, b, xs, ys, rfl, rfl, SqT.of hx, SqT.of hy, by rw [its.len, its2.len]; exact Nat.le_trans hl (by decide), fun z => ?_, fun z z2 => ?_, fun z z2 p hp => ?_⟩
  · subst z
    exact q _ H (Same.refl H) ⟨b, ys, rfl, hy, its3⟩
  · subst z2
    rw [List.append_nil] at its3
    exact q _ H (Same.refl H) ⟨a, xs, rfl, hx, its3⟩
  · exact q _ _ (same_upd hp) ⟨p, _, rfl, upd_same, its3.mono (same_upd hp)⟩
end
end K31
set_option Elab.async false
set_option linter.all false
set_option maxRecDepth 100000
set_option maxHeartbeats 2000000
/-! T6: walks of pairs: enumerate, zip. -/
namespace K31
open PySem PySem.Spec L2
open AutoSeq1 (wpAny_loadPart')
theorem meets_enumerate_newT (l : Addr) (items : Array Value) (n : Nat) (dct : Option Addr) (sl : Array (Option Value)) :
    Meets (Builtin.«enumerate.__new__» ⟨[.type "enumerate", .ref l], []⟩) (fun _ R s => s.heap.get? l = some { cls := .type "tuple", dict := dct, data := .seq items n, slots := sl } ∧
      R (.ok (.ret (.ref (s.heap.push { cls := .type "tuple_iterator", data := .fields #[.ref l, .int 0 0] }).objs.size)))
        { s with heap := (s.heap.push { cls := .type "tuple_iterator", data := .fields #[.ref l, .int 0 0] }).push { cls := .type "enumerate", data := .fields #[.none, .bool false, .ref s.heap.objs.size, rawInt 0, .none, .none] } }) :=
  .of_wp fun prog w A R s h => by
    obtain ⟨hp, g, d, tk, os⟩ := s; obtain ⟨hl, h⟩ := h
    have hsub := sub_enumerate
    have hL : Heap.IsTuple (Shared.heap ⟨hp, g, d, tk, os⟩) l items := ⟨_, hl, rfl, n, rfl⟩
    wp_walk using wpAny_loadPart' hl
    refine wpAny_stack_any fun st => wpAny_pure ?_
    split
    · rename_i c _ _ _ _ _
      cases (c == Value.type "enumerate")
      · wp_walk using wpAny_loadPart' hl, wpAny_pyIter_tuple hL
        exact ⟨_, rfl, h⟩
      · wp_walk using wpAny_loadPart' hl, wpAny_pyIter_tuple hL
        exact ⟨_, rfl, h⟩
    · wp_walk using wpAny_loadPart' hl, wpAny_pyIter_tuple hL
      exact ⟨_, rfl, h⟩
section
variable {prog : Program} {w : World} {A : Around} {E : Value → Shared → Prop} {s : Shared}
theorem call_enumerate_tuple {l : Addr} {items : Array Value} {Q : Value → Shared → Prop} (hL : s.heap.IsTuple l items)
    (h : ∀ h', IsEnum h' (s.heap.objs.size + 1) s.heap.objs.size 0 .none → h'.IsTupleIter s.heap.objs.size l 0 → h'.objs.size = s.heap.objs.size + 2 →
      (∀ b o, s.heap.get? b = some o → h'.get? b = some o) → Q (.ref (s.heap.objs.size + 1)) { s with heap := h' }) :
    wpAny (model prog w) A (call (.type "enumerate") [.ref l]) Q E s := by
  obtain ⟨⟨c, dct, dt, sl⟩, hl, hc, n, hd⟩ := hL
  replace hc : c = .type "tuple" := hc
  replace hd : dt = .seq items n := hd
  subst hc hd
  refine callType_new F.called_enumerate (by decide) (F.typeCall_enumerate_1 _) (F.newCall_enumerate_1 _) (fun obj => F.args_object_init_2 obj _) F.entry_enumerate_new
    (meets_enumerate_newT l items n dct sl) ⟨hl, ?_⟩
  have hz : (s.heap.push { cls := .type "tuple_iterator", data := .fields #[.ref l, .int 0 0] }).objs.size = s.heap.objs.size + 1 := Heap.size_push ..
  show _ ∧ _
  rw [hz]
  have he : IsEnum ((s.heap.push { cls := .type "tuple_iterator", data := .fields #[.ref l, .int 0 0] }).push
      { cls := .type "enumerate", data := .fields #[.none, .bool false, .ref s.heap.objs.size, rawInt 0, .none, .none] }) (s.heap.objs.size + 1) s.heap.objs.size 0 .none := by
    have := Heap.get?_push_size (s.heap.push { cls := .type "tuple_iterator", data := .fields #[.ref l, .int 0 0] })
      (o := { cls := .type "enumerate", data := .fields #[.none, .bool false, .ref s.heap.objs.size, rawInt 0, .none, .none] }) rfl
    rw [hz] at this; exact this
  refine ⟨⟨_, he, rfl⟩, h _ he ⟨_, Heap.get?_push_of_some _ (Heap.get?_push_size _ rfl), rfl, rfl⟩ (by rw [Heap.size_push, hz]) fun b o x => Heap.get?_push_of_some _ (Heap.get?_push_of_some _ x)⟩
end
/-- the tuple at a as it stands, each item in a new pair -/
def IteT (K : PySem.W.Frag) (a : Addr) : It :=
  ⟨fun i H => ∃ (xs : List V) (x : V), SqT K H a xs ∧ xs[i]? = some x, fun i H v H' => ∃ T x, v = .ref T ∧ H T = none ∧ H' = upd H T (.tup [.int (i : Nat), x]) ∧ ∀ xs, SqT K H a xs → xs[i]? = some x, fun i H => ∃ xs : List V, SqT K H a xs ∧ xs.length ≤ i⟩
theorem turn_enumT {P : Program} {w : World} {K : PySem.W.Frag} {elts : List Expr} {kk : Nat} {tpos : Pos} (a e it : Addr) (hea : e ≠ a) (hai : a ≠ it) :
    Turn P w K (.Tuple elts kk tpos) (IteT K a) [e, it] e (fun i h => (∃ old, IsEnum h e it ((i : Nat) : Int) old) ∧ h.IsTupleIter it a i ∧ e ≠ it) where
  mem := by simp
  obj := fun i h st b hb => by
    obtain ⟨⟨old, he⟩, ⟨o, ho, hc, hd⟩, _⟩ := st
    have e' : b = e ∨ b = it := by simpa using hb
    rcases e' with z | z
    · rw [z]; exact ⟨_, he, fun v q => nomatch q⟩
    · rw [z]; exact ⟨o, ho, fun v q => by rw [hd] at q; cases q⟩
  keep := fun i h h' st k => let ⟨⟨old, he⟩, hi, hne⟩ := st; ⟨⟨old, k e (by simp) _ he⟩, hi.at fun o q => k it (by simp) o q, hne⟩
  item := by
    intro X hP hw hK hc i pins s σ H E I hf st hg
    subst hP hw hK
    obtain ⟨⟨old, he⟩, hit, hne⟩ := st
    obtain ⟨xs, x, hq, hx⟩ := hg
    obtain ⟨its, rv, p, hz⟩ := I.tuple hq
    obtain ⟨u, hu, ru⟩ := rv.get hx
    have hel : e < s.heap.objs.size := Heap.lt_size he
    have hil : it < s.heap.objs.size := by obtain ⟨_, q, _⟩ := hit; exact Heap.lt_size q
    have D := Draws.tuple (prog := X.prog) (w := X.w) (A := X.A.in1) (I.ok.hd hc) it a hai its.toArray
    have hlt : i < its.length := (List.getElem?_eq_some_iff.mp hu).1
    refine wpAny_pyNext_enum_itemD D he ⟨hit, p⟩ (by simpa using hlt) hne (by simp [hne, hea]) fun y h' tk hy ho hit' hT hsz hk => ?_
    have ey : y = u := by
      have h1 : its.toArray[i]? = some u := by simpa using hu
      rw [h1] at hy
      exact (Option.some.inj hy).symm
    subst ey
    refine ⟨_, rfl, wpAny_letOwnedTupleGo_enum (s := { s with heap := h', toks := tk + 1 }) ho fun h'' he' sb => ?_⟩
    have hT2 : h''.get? s.heap.objs.size = some { cls := .type "tuple", data := .seq #[.int i tk, y] } := (sb.2 _ (Nat.ne_of_gt hel)).trans hT
    have new : ObjOk X.prog X.w (upd H s.heap.objs.size (.tup [.int (i : Nat), x])) h'' s.heap.objs.size (.tup [.int (i : Nat), x]) :=
      ⟨by show 2 ≤ sizeLine; decide, [.int i tk, y], .cons ⟨_, rfl⟩ (.cons ru .nil), ⟨_, hT2, rfl, _, rfl⟩⟩
    have I1 : Inv X pins σ (upd H s.heap.objs.size (.tup [.int (i : Nat), x])) { s with heap := h'', toks := tk + 1 } :=
      I.turnedNew (ch := [e, it]) (fun b ob hb q => (sb.2 b (fun z => hb (by simp [z]))).trans (hk b ob (fun z => hb (by simp [z])) (fun z => hb (by simp [z])) q)) hf (Nat.le_refl _) new
    refine ⟨.ref s.heap.objs.size, _, I1, rfl, ⟨_, x, rfl, I.hok.fresh (Nat.le_refl _), rfl, fun ys hy => by rw [I.tuple_inj hy hq]; exact hx⟩, ⟨⟨y, ?_⟩, hit'.1.at fun o q => (sb.2 it (Ne.symm hne)).trans q, hne⟩, fun b hb => ?_⟩
    · have e1 : ((i + 1 : Nat) : Int) = (i : Int) + 1 := by omega
      rw [e1]; exact he'
    · have hb' : b < s.heap.objs.size := by
        have e' : b = e ∨ b = it := by simpa using hb
        rcases e' with z | z
        · rw [z]; exact hel
        · rw [z]; exact hil
      rw [upd_ne (Nat.ne_of_lt hb')]
      exact (hf b hb).1
  done := by
    intro X hP hw hK hc i pins s σ H E I hf st hg
    subst hP hw hK
    obtain ⟨⟨old, he⟩, hit, hne⟩ := st
    obtain ⟨xs, hq, hx⟩ := hg
    obtain ⟨its, rv, p, hz⟩ := I.tuple hq
    obtain ⟨f0, f1, f2, f3, f4, f5⟩ := hf it (by simp)
    have hl := rv.length
    have hT : s.TypeIs (.ref e) "enumerate" := ⟨_, he, rfl⟩
    unfold pyNext
    refine wpAny_bind (wpAny_attempt (wpAny_callSpecial?_slot (name := Str.ofString "__next__") hT F.slot_enumerate_next
      (wpAny_call_entry F.slot_enumerate_next hT F.entry_enumerate_next ?_ (F.args_enumerate_next_1 _))))
    show wpAny _ _ (field (.ref e) 2 >>= _) _ _ _
    refine wpAny_bind (wpAny_field he rfl (x := .ref it) rfl ?_)
    refine wpAny_bind (wpAny_nextOf_tuple_end (I.ok.hd hc) hit (show s.heap.IsTuple a its.toArray from p) (by simp; omega) fun h' y he' hx' => ?_)
    obtain ⟨o, ho, hc⟩ := hx'
    refine wpAny_bind (wpAny_isInstance (T := "StopIteration") (b := true) ⟨o, ho, hc⟩ isSubtype_stop ?_)
    exact wpAny_pure ⟨rfl, I.turned (t' := s.toks) (fun b o hb q => he' b o hb q) f0 f1 f3 f4 f5⟩
  self := fun A i s Q E st h => let ⟨⟨_, he⟩, _⟩ := st; wpAny_pyIter_enum he h
def iEnumA (K : PySem.W.Frag) (ta : TA) : TI := fun σ H R => ta σ H fun vs H1 => ∃ a xs, vs = [.ref a] ∧ ((SqL K H1 a xs ∧ R (Ite K a) H1) ∨ (SqT K H1 a xs ∧ R (IteT K a) H1))
theorem pi_enumA {X : Cx} {e : Expr} {ta : TA} {p pos tpos : Pos} {elts : List Expr} {kk : Nat} (hg : Gl X "enumerate") (hm : X.mg "enumerate" = none) (ha : PA X [e] ta) (hs : starEach [e] X.env = [(false, eval e X.env)] := by rfl) :
    PI X (.Tuple elts kk tpos) (.Call (.Name "enumerate" p) [e] [] pos) (iEnumA X.K ta) := by
  refine ⟨fun pins s σ H R I h => ?_⟩
  refine PyProof.Rows.Call_ (ld_blt I hg hm PyProof.Rows.boot_enumerate (PyProof.Rows.callWith_type1 (thn (ha.run pos pins s σ H _ I h) fun us s1 ⟨vs, H1, I1, r1, q1⟩ => ?_) hs rfl))
  obtain ⟨a, xs, ex, q⟩ := q1
  subst ex
  cases r1 with
  | cons r rr =>
    cases rr
    cases r
    have big : ∀ b, b ∈ [s1.heap.objs.size + 1, s1.heap.objs.size] → FpOk X pins H1 b := fun b hb => by
      have e' : b = s1.heap.objs.size + 1 ∨ b = s1.heap.objs.size := by simpa using hb
      have hle : s1.heap.objs.size ≤ b := by
        rcases e' with z | z
        · rw [z]; exact Nat.le_add_right _ _
        · rw [z]; exact Nat.le_refl _
      exact I1.fpOk hle (I1.hok.fresh hle)
    rcases q with ⟨hq, q⟩ | ⟨hq, q⟩
    · obtain ⟨its, rv, p', hz⟩ := I1.list hq
      refine call_enumerate_list p'.isList fun h' he hit hsz hk => wpAny_pyIter_enum he ?_
      have I2 : Inv X pins σ H1 { s1 with heap := h' } := I1.kept (t' := s1.toks) hk
      exact ⟨s1.heap.objs.size + 1, [s1.heap.objs.size + 1, s1.heap.objs.size], _, _, H1, rfl, I2, turn_enum a (s1.heap.objs.size + 1) s1.heap.objs.size, ⟨⟨.none, he⟩, hit, Nat.succ_ne_self _⟩, big, q⟩
    · obtain ⟨its, rv, p', hz⟩ := I1.tuple hq
      have hlt : a < s1.heap.objs.size := by obtain ⟨o, ho, _⟩ := p'; exact Heap.lt_size ho
      refine call_enumerate_tuple (show s1.heap.IsTuple a its.toArray from p') fun h' he hit hsz hk => wpAny_pyIter_enum he ?_
      have I2 : Inv X pins σ H1 { s1 with heap := h' } := I1.kept (t' := s1.toks) hk
      exact ⟨s1.heap.objs.size + 1, [s1.heap.objs.size + 1, s1.heap.objs.size], _, _, H1, rfl, I2, turn_enumT a (s1.heap.objs.size + 1) s1.heap.objs.size (Nat.ne_of_gt (Nat.lt_succ_of_lt hlt)) (Nat.ne_of_lt hlt), ⟨⟨.none, he⟩, hit, Nat.succ_ne_self _⟩, big, q⟩
section
variable {X : Cx} {G : Ctx} {M : MCtx} {P Pa Pb Pc : VP} {a b c e e2 : Expr} {pos p tpos : Pos} {Ps Qs : List VP} {elts : List Expr} {kk : Nat}
theorem walk_enumT {K : PySem.W.Frag} {a : Addr} {xs : List V} : Walk (IteT K a) xs.length (fun H => SqT K H a xs) (YPair (fun i => some (.int (i : Nat))) (fun i => xs[i]?)) := by
  refine ⟨fun i _ hi q => ⟨xs, xs[i], q, by simp [hi]⟩, fun _ q => ⟨xs, q, Nat.le_refl _⟩, fun i H v H' _ q y => ?_⟩
  obtain ⟨T, x, h1, h2, h3, h4⟩ := y
  exact ⟨T, .int (i : Nat), x, h1, h2, h3, rfl, h4 xs q⟩
theorem walk_zipT {K : PySem.W.Frag} {a b : Addr} {xs ys : List V} {n : Nat} (hn : n = min xs.length ys.length) : Walk (RZ.ItzT K a b) n (fun H => SqT K H a xs ∧ SqT K H b ys) (YPair (fun i => xs[i]?) (fun i => ys[i]?)) := by
  subst hn
  refine ⟨fun i _ hi q => ?_, fun _ q => ⟨xs, ys, q.1, q.2, by omega⟩, fun i H v H' _ q y => ?_⟩
  · have h1 : i < xs.length := by omega
    have h2 : i < ys.length := by omega
    exact ⟨xs, ys, xs[i], ys[i], q.1, q.2, by simp [h1], by simp [h2]⟩
  · obtain ⟨T, x, z, h1, h2, h3, h4, h5⟩ := y
    exact ⟨T, x, z, h1, h2, h3, h4 xs q.1, h5 ys q.2⟩
/-- for i, x in enumerate(..) -/
theorem p_enum (h : TyE X e G M (vSq Ps)) (hg : Gl X "enumerate") (hm : X.mg "enumerate" = none) (hs : starEach [e] X.env = [(false, eval e X.env)] := by rfl) :
    PIt X (.Tuple elts kk tpos) (.Call (.Name "enumerate" p) [e] [] pos) G M Ps.length (fun i => vTu [vI ((i : Nat) : Int), atP Ps i]) :=
  PI.imp (pi_enumA hg hm (a_cons h a_nil hs) hs) fun t H R ⟨Hf, o, m, k⟩ => ⟨Hf, o, m, fun vs Hf' H' s' m' its => by
    obtain ⟨x, rfl, pv⟩ := it1 its
    rcases pv with ⟨ad, xs, rfl, hx, its⟩ | ⟨ad, xs, rfl, hx, its⟩
    · refine ⟨ad, xs, rfl, .inr ⟨SqT.of (m'.same _ _ hx), k _ Hf' H' (fun H => SqT X.K H ad xs ∧ Items Ps xs H) s' m' ⟨SqT.of hx, its⟩ ?_⟩⟩
      have hl := its.len
      rw [← hl]
      refine tw_pair (W := fun H => SqT X.K H ad xs) walk_enumT (fun H H' s h => ⟨SqT.same s h.1, h.2.mono s⟩) (fun H h => h.1) (fun i Hf x hi h e => ?_) fun i Hf x hi h e => ?_
      · exact (Option.some.inj e).symm
      · obtain ⟨v, hv, pv⟩ := h.2.get (atP_get (by rw [← h.2.len]; exact hi))
        rw [hv] at e
        cases e
        exact pv
    · refine ⟨ad, xs, rfl, .inl ⟨SqL.of (m'.same _ _ hx), k _ Hf' H' (fun H => SqL X.K H ad xs ∧ Items Ps xs H) s' m' ⟨SqL.of hx, its⟩ ?_⟩⟩
      have hl := its.len
      rw [← hl]
      refine tw_pair (W := fun H => SqL X.K H ad xs) walk_enum (fun H H' s h => ⟨Same.seq s h.1, h.2.mono s⟩) (fun H h => h.1) (fun i Hf x hi h e => ?_) fun i Hf x hi h e => ?_
      · exact (Option.some.inj e).symm
      · obtain ⟨v, hv, pv⟩ := h.2.get (atP_get (by rw [← h.2.len]; exact hi))
        rw [hv] at e
        cases e
        exact pv⟩
/-- for x, y in zip(t, u), tuples -/
theorem p_zipT (h : TyE X e G M (vTu Ps)) (h2 : TyE X e2 G M (vTu Qs)) (hg : Gl X "zip") (hm : X.mg "zip" = none)
    (hs : starEach [e, e2] X.env = (false, eval e X.env) :: starEach [e2] X.env := by rfl) (hs2 : starEach [e2] X.env = (false, eval e2 X.env) :: starEach [] X.env := by rfl) (hpl : (backTo pos (starEach [e2] X.env)).any (·.1) = false := by rfl) :
    PIt X (.Tuple elts kk tpos) (.Call (.Name "zip" p) [e, e2] [] pos) G M (min Ps.length Qs.length) (fun i => vTu [atP Ps i, atP Qs i]) :=
  PI.imp (RZ.pi_zipA hg hm (a_cons h (a_cons h2 a_nil hs2) hs) hs hpl) fun t H R ⟨Hf, o, m, k⟩ => ⟨Hf, o, m, fun vs Hf' H' s' m' itt => by
    obtain ⟨x, y, rfl, ⟨ad, xs, rfl, hx, its⟩, ⟨bd, ys, rfl, hy, its2⟩⟩ := it2 itt
    refine ⟨ad, bd, xs, ys, rfl, .inr ⟨SqT.of (m'.same _ _ hx), SqT.of (m'.same _ _ hy), k _ Hf' H' (fun H => (SqT X.K H ad xs ∧ SqT X.K H bd ys) ∧ Items Ps xs H ∧ Items Qs ys H) s' m' ⟨⟨SqT.of hx, SqT.of hy⟩, its, its2⟩ ?_⟩⟩
    refine tw_pair (W := fun H => SqT X.K H ad xs ∧ SqT X.K H bd ys) (walk_zipT (by rw [its.len, its2.len])) (fun H H' s h => ⟨⟨SqT.same s h.1.1, SqT.same s h.1.2⟩, h.2.1.mono s, h.2.2.mono s⟩) (fun H h => h.1) (fun i Hf x hi h e => ?_) fun i Hf x hi h e => ?_
    · obtain ⟨v, hv, pv⟩ := h.2.1.get (atP_get (i := i) (by omega))
      rw [hv] at e
      cases e
      exact pv
    · obtain ⟨v, hv, pv⟩ := h.2.2.get (atP_get (i := i) (by omega))
      rw [hv] at e
      cases e
      exact pv⟩
end
end K31
set_option Elab.async false
set_option linter.all false
set_option maxRecDepth 100000
set_option maxHeartbeats 2000000
/-! T7: comprehensions of any target, own items, pop, tuple ==, functions that change what they are handed. -/
namespace K31
open PySem PySem.Spec L2
section
variable {X : Cx} {G : Ctx} {M : MCtx} {P Pa Pb Pc : VP} {a b c e e2 : Expr} {pos p tpos : Pos} {Ps Qs : List VP} {H0 : Hp} {D : Ends} {rest sts body : List Stmt} {st : Stmt}
/-- what says nothing of the newest changing thing -/
theorem TyE.frameH {m : MT} (h : TyE X e G M P) : TyE X e G (m :: M) P := by
  refine ⟨fun pins s t H Q I w => ?_⟩
  obtain ⟨Hf, o, ⟨L, rfl, f, mi⟩, k⟩ := w
  cases L with
  | nil => exact mi.elim
  | cons e1 L =>
    obtain ⟨ps, I1, back⟩ := frameE I f.1
    refine thn (h.run (pins ++ ps) s t (lay L Hf) (fun v H1 => ∃ Hf', Same Hf Hf' ∧ OkM M Hf' H1 ∧ P.p v Hf') I1 ⟨Hf, o, ⟨L, rfl, f.2, mi.2⟩, fun v Hf' H' sm m' p => ⟨Hf', sm, m', p⟩⟩) fun u s' ⟨v, H1, I2, r, Hf', sm, m', p⟩ => ?_
    obtain ⟨f1, I3⟩ := back _ _ _ I2
    obtain ⟨L1, rfl, f2, mi2⟩ := m'
    exact ⟨v, _, I3, r, k v Hf' _ sm ⟨e1 :: L1, rfl, ⟨f1, f2⟩, mi.1.mono sm, mi2⟩ p⟩
/-! ### comprehensions -/
theorem wipe2 (t : L2.St) {i j : Nat} (hij : i ≠ j) (x y : Option V) : L2.wipe (((L2.wipe t [i, j]).set i x).set j y) [i, j] = L2.wipe t [i, j] := by
  show ((((((t.set j none).set i none).set i x).set j y).set j none).set i none) = (t.set j none).set i none
  rw [List.set_set, List.set_set, List.set_comm _ _ (Ne.symm hij), List.set_set, List.set_comm _ _ hij, List.set_set]
theorem wipe_wipe1 (t : L2.St) (i : Nat) (x : Option V) : L2.wipe ((L2.wipe t [i]).set i x) [i] = L2.wipe t [i] := wipe1 t i x
/-- how a target takes an item -/
def GoW (vs : List Nat) (n : Nat) (Yp : Nat → VP) (sG : Nat → Ctx → Ctx) (g : TG) : Prop :=
  ∀ (i : Nat) (G : Ctx) (x : V) (t : L2.St) (Hf H : Hp) (Q : L2.St → Hp → Prop), i < n → (Yp i).p x Hf → OkS G (L2.wipe t vs) Hf → Same Hf H → (∀ t', L2.wipe t' vs = L2.wipe t vs → OkS (sG i G) t' Hf → Q t' H) → g x (L2.wipe t vs) H Q
theorem gow_name (j : Nat) {n : Nat} {Yp : Nat → VP} : GoW [j] n Yp (fun i G => G.set j (some (Yp i))) (gName j) :=
  fun _ _ _ t _ _ _ _ p o _ q => q _ (wipe1 t j _) (o.set p)
theorem gow_pair {K : PySem.W.Frag} (i j : Nat) (hij : i ≠ j) {n : Nat} {Yp Zp : Nat → VP} : GoW [i, j] n (fun l => vTu [Yp l, Zp l]) (fun l G => (G.set i (some (Yp l))).set j (some (Zp l))) (gTup K 2 (gNames [i, j])) := by
  intro l G x t Hf H Q hl px o s q
  obtain ⟨ad, xs, rfl, hx, its⟩ := px
  obtain ⟨y, z, rfl, p1, p2⟩ := it2 its
  refine ⟨ad, _, rfl, SqT.of (s _ _ hx), rfl, y, _, rfl, z, _, rfl, rfl, q _ (wipe2 t hij _ _) ((o.set p1).set p2)⟩
theorem lc_readM {tg iter elt : Expr} {n : Nat} {Yp Zp : Nat → VP} {g : TG} {sG : Nat → Ctx → Ctx} {vs : List Nat} (hn : n ≤ 100000) (hgo : GoW vs n Yp sG g)
    {t : L2.St} {H : Hp} {Q : VK} (h : ∃ Hf, OkS G t Hf ∧ OkM M Hf H ∧ ∀ ad Hf' H', Same Hf Hf' → OkM (.l ad ((List.range n).map Zp) :: M) Hf' H' → Q (.ref ad) H') :
    tLc (fun t H R => ∃ Hf, OkS G t Hf ∧ OkM M Hf H ∧ ∀ J Hf' H' F, Same Hf Hf' → OkM M Hf' H' → F Hf' → TW J n F Yp → R J H') g tYes (fun t H Q => ∃ i, i < n ∧ ∃ m, rd (sG i (wipeC G vs)) (m :: M) (Zp i) t H Q) vs t H Q := by
  obtain ⟨Hf, o, m, k⟩ := h
  refine ⟨Hf, o, m, fun J Hf' H' F s' m' f w dd hdd => ?_⟩
  refine ⟨fun k mm H1 => mm = n - k ∧ k ≤ n ∧ ∃ Hg, Same Hf' Hg ∧ OkM (.l dd ((List.range k).map Zp) :: M) Hg H1, ⟨n, by simp, Nat.zero_le _, Hf', Same.refl _, m'.push hdd trivial⟩, ?_⟩
  rintro l mm H1 ⟨rfl, hl, Hg, sg, mg⟩
  have fg : F Hg := w.mono _ _ sg f
  have f1 : F H1 := w.mono _ _ mg.same fg
  by_cases hlt : l < n
  · refine .inr ⟨w.go l H1 hlt f1, fun H2 => ∃ Hg, Same Hf' Hg ∧ OkM (.l dd ((List.range (l + 1)).map Zp) :: M) Hg H2, fun H2 q => ⟨n - (l + 1), by omega, rfl, hlt, q⟩, fun x H2 y => ?_⟩
    obtain ⟨Hy, sy, my, py⟩ := w.yld _ l Hg H1 x H2 hlt fg mg y
    refine hgo l (wipeC G vs) x t Hy H2 _ hlt py ((((o.mono s').mono sg).mono sy).wipe vs) my.same fun t' ht' ot' => ⟨ht', ?_⟩
    unfold tYes
    dsimp only
    rw [if_pos rfl]
    refine ⟨l, hlt, .l dd ((List.range l).map Zp), Hy, ot', my, fun v Hv H3 sv mv pv => ?_⟩
    obtain ⟨xs, hx, its⟩ := mv.at_ (k := 0) rfl
    have hlen := its.len
    rw [List.length_map, List.length_range] at hlen
    refine ⟨xs, hx, ?_, Hv, (sg.trans sy).trans sv, ?_⟩
    · rw [hlen]; exact Nat.lt_of_lt_of_le (Nat.lt_of_lt_of_le hlt hn) (by decide)
    · rw [mapR]
      exact mv.put (k := 0) rfl (its.append ⟨pv, trivial⟩)
  · have e : l = n := by omega
    subst e
    exact .inl ⟨w.stop H1 f1, k dd Hg H1 (s'.trans sg) mg⟩
theorem lc_eltM {elt : Expr} {n : Nat} {Zp : Nat → VP} {sG : Nat → Ctx → Ctx} {Xb : Cx} {G' : Ctx} (h : ∀ i, i < n → TyE Xb elt (sG i G') M (Zp i)) : PE Xb elt (fun t H Q => ∃ i, i < n ∧ ∃ m, rd (sG i G') (m :: M) (Zp i) t H Q) :=
  ⟨fun pins s t H Q I ⟨i, hi, M', w⟩ => ((h i hi).frameH).run pins s t H Q I w⟩
/-- [elt for tg in iter] -/
theorem n_lcG {tg iter elt : Expr} {scope : Scope} {own : List (Str × Nat)} {vs : List Nat} {n : Nat} {Yp Zp : Nat → VP} {g : TG} {sG : Nat → Ctx → Ctx} (hi : PIt X tg iter G M n Yp) (hn : n ≤ 100000) (hN : X.N.Nodup) (ok : BlkOk X.N X.env.scope scope own) (hv : own.map (·.2) = vs) (hgo : GoW vs n Yp sG g)
    (hg : ∀ (s : Shared) (H : Hp) (C : Addr) (cl : List (Str × Addr)) (fp : List Addr), PG (X.blk s H scope (compEnvC scope cl C X.env) fp) tg g)
    (he : ∀ (s : Shared) (H : Hp) (C : Addr) (cl : List (Str × Addr)) (fp : List Addr) (i : Nat), i < n → TyE (X.blk s H scope (compEnvC scope cl C X.env) fp) elt (sG i (wipeC G vs)) M (Zp i))
    (hc : X.calm = true := by rfl) (hs : ∀ x, foldedSetIterable iter X.env x = pure x := by intro _; rfl) : TyN X (.ListComp elt [⟨tg, iter, [], 0⟩] scope pos) G M ((List.range n).map Zp) := by
  subst hv
  exact PE.imp (pe_lc hc hN hi ok hg (fun _ _ _ _ _ => pts_nil) (fun s H C cl fp => lc_eltM (he s H C cl fp)) hs) fun t H Q h => lc_readM (iter := iter) (elt := elt) (tg := tg) hn hgo h
/-- x = [elt for tg in iter], x not read in the block's way (the swap) -/
theorem s_lcG (l : Nat) {y : Str} {py spos : Pos} {tg iter elt : Expr} {scope : Scope} {own : List (Str × Nat)} {vs : List Nat} {n : Nat} {Yp Zp : Nat → VP} {g : TG} {sG : Nat → Ctx → Ctx} (hi : PIt X tg iter G M n Yp) (hn : n ≤ 100000) (hN : X.N.Nodup) (ok : BlkOk X.N X.env.scope scope own) (hv : own.map (·.2) = vs) (hgo : GoW vs n Yp sG g)
    (hg : ∀ (s : Shared) (H : Hp) (C : Addr) (cl : List (Str × Addr)) (fp : List Addr), PG (X.blk s H scope (compEnvC scope cl C X.env) fp) tg g)
    (he : ∀ (s : Shared) (H : Hp) (C : Addr) (cl : List (Str × Addr)) (fp : List Addr) (i : Nat), i < n → TyE (X.blk s H scope (compEnvC scope cl C X.env) fp) elt (sG i (wipeC G vs)) M (Zp i))
    (h : ∀ ad, SOk X rest H0 (G.set l (some (vAt ad))) (.l ad ((List.range n).map Zp) :: M) D) (hy : X.N[l]? = some y := by rfl) (hyl : X.env.scope.names.lookup y = some .local := by rfl)
    (hsw : swapsWith (.ListComp elt [⟨tg, iter, [], 0⟩] scope pos) (some (.Name y py)) spos.line X.env = pure true := by exact sw_true rfl rfl rfl (by decide +kernel))
    (hc : X.calm = true := by rfl) (hs : ∀ x, foldedSetIterable iter X.env x = pure x := by intro _; rfl) : SOk X (.Assign [.Name y py] (.ListComp elt [⟨tg, iter, [], 0⟩] scope pos) spos :: rest) H0 G M D := by
  subst hv
  exact s_cons (ps_setLc hc hN hy hyl hsw hi ok hg (fun _ _ _ _ _ => pts_nil) (fun s H C cl fp => lc_eltM (he s H C cl fp)) hs) fun t Hf H s o m =>
    lc_readM (iter := iter) (elt := elt) (tg := tg) hn hgo ⟨Hf, o, m, fun ad Hf' H' s' m' => h ad _ Hf' H' (s.trans s') ((o.mono s').set rfl) m'⟩
theorem set_same {α : Type} {t : List α} {l : Nat} {x : α} (h : t[l]? = some x) : t.set l x = t := by
  apply List.ext_getElem?
  intro i
  rw [List.getElem?_set]
  split
  · rename_i e
    subst e
    split
    · exact h.symm
    · rename_i hl
      rw [List.getElem?_eq_none (by omega)] at h
      cases h
  · rfl
/-! ### the new list rests at once -/
theorem s_asgNC (i : Nat) {x : Str} {p' : Pos} (he : TyN X e G M Ps) (h : SOk X rest H0 (G.set i (some (vLs Ps))) M D) (hN : X.N.Nodup) (hi : X.N[i]? = some x := by rfl) (hx : Loc X.env.scope x := by first | exact Or.inl rfl | exact Or.inr rfl)
    (hs : swapsWith e (some (.Name x p')) pos.line X.env = pure false := by rfl) (hf : X.fn x = true ∨ X.env.scope.names.lookup x = some .local := by first | exact .inl rfl | exact .inr rfl) : SOk X (.Assign [.Name x p'] e pos :: rest) H0 G M D :=
  s_asg i he.ty h hN hi hx hs hf
/-- the newest changing list rests: the slot that holds it tells its items -/
theorem s_calm (l : Nat) {ad : Addr} (hG : G[l]? = some (some (vAt ad))) (h : SOk X sts H0 (G.set l (some (vLs Ps))) M D) : SOk X sts H0 G (.l ad Ps :: M) D := fun t Hf H s o m => by
  obtain ⟨Hf', s', m', p⟩ := m.calm
  obtain ⟨v, hv, pv⟩ := o.get hG
  have pv : v = .ref ad := pv
  have e : t = t.set l (some v) := (set_same hv).symm
  have o2 : OkS (G.set l (some (vLs Ps))) (t.set l (some v)) Hf' := (o.mono s').set (P := vLs Ps) (by rw [pv]; exact p)
  rw [← e] at o2
  exact h t Hf' H (s.trans s') o2 m'
/-! ### an own __getitem__ -/
variable {k j : Nat} {C : Addr} {fs : List (Str × VP)} {R Pi : VP}
theorem e_own_ix (c : MetT X.prog X.w X.K X.mg X.base k C "__getitem__" [vIn C fs, Pi] [] R) (hfn : ∀ f, Meth X.K C "__getitem__" f → PySem.W.fnIn X.K f = true) (hr : Room (j + 1) X.A) (hk : k ≤ j) (ha : TyE X a G M (vIn C fs)) (hb : TyE X b G M Pi)
    (hsl : ∀ x i, subscripted b true (.ref x) i = runValue (.builtin "lifetime.subscript" ⟨[.ref x, i], []⟩) := by intro _ _; with_unfolding_all rfl) : TyE X (.Subscript a b pos) G M R := by
  obtain ⟨f, fd, ps, ds, hcl, hmt, F, bn, dv⟩ := c.ex
  have e : ds = [] := by cases dv; rfl
  subst e
  have key : ∀ (pins : List (Addr × Obj)) (s : Shared) (t : L2.St) (H : Hp) (x y : V) (v u : Value) (Q : VK), Inv X pins t H s → RelV x v → RelV y u → (rd2 (vIn C fs) Pi R) x y H Q → wpAny (model X.prog X.w) X.A (PyProof.Rows.subscriptTail a b v u) (EP X pins t Q) X.xe s := by
    intro pins s t H x y v u Q I rx ry w
    obtain ⟨px, py, q⟩ := w
    have px' := px
    obtain ⟨ax, dx, gx, rfl, hx, fx⟩ := px
    cases rx
    obtain ⟨odx, J⟩ := inst_of I hx
    obtain ⟨m, hF⟩ := I.fr
    refine PySem.W.sub_K hF I.ok.mod.kin J hmt.at_ (hfn f hmt) hmt.fn ?_ (hsl _ _)
    have e0 : Env0 X.prog X.w X.K X.mg X.base X.A.in1 X.stack s H := I.env0.in1
    have hsp : spV [vIn C fs, Pi] R ([.ref ax, y] ++ []) H Q (fun _ _ _ => False) := ⟨⟨px', py, trivial⟩, q⟩
    have r2 : Vals ([.ref ax, y] ++ []) ([.ref ax, u] ++ []) := .cons rfl (.cons ry .nil)
    have hl : ([.ref ax, u] ++ [] : List Value).length = ps.length := by rw [← r2.length]; exact F.len _ _ _ _ hsp
    refine wpAny_call (codeAny_mono (F.run X.A.in1 X.stack s H ⟨[.ref ax, u], []⟩ ([.ref ax, u] ++ []) ([.ref ax, y] ++ []) Q (fun _ _ _ => False) (hr.in1.mono hk) e0 (bn s [.ref ax, u] I.kIn hl) r2 hsp) fun r s' hq => ?_)
    cases r with
    | error e => exact False.elim hq
    | ok fl =>
      cases fl with
      | ret u => exact I.after hq
      | next => exact False.elim hq
      | brk => exact False.elim hq
      | cont => exact False.elim hq
  -- with the frame
  have keyM : ∀ (pins : List (Addr × Obj)) (s : Shared) (t : L2.St) (H : Hp) (x y : V) (v u : Value) (Q : VK), Inv X pins t H s → RelV x v → RelV y u → (rd2M M (vIn C fs) Pi R) x y H Q → wpAny (model X.prog X.w) X.A (PyProof.Rows.subscriptTail a b v u) (EP X pins t Q) X.xe s := by
    intro pins s t H x y v u Q I rx ry w
    obtain ⟨Hf, m, pa, pb, kk⟩ := w
    obtain ⟨ps2, I1, back⟩ := frameM I m
    refine thn (key (pins ++ ps2) s t Hf x y v u (fun v Hf' => Same Hf Hf' ∧ R.p v Hf') I1 rx ry ⟨pa, pb, fun v H' sm p => ⟨sm, p⟩⟩) fun z s' ⟨v', Hf', I2, r, sm, p⟩ => ?_
    obtain ⟨H', m', I3⟩ := back _ _ _ sm I2
    exact ⟨v', H', I3, r, kk v' Hf' H' sm m' p⟩
  exact PE.imp (t := tOp (rd2M M (vIn C fs) Pi R) (rd G M (vIn C fs)) (rd G M Pi)) ⟨fun pins s t H Q I h => PyProof.Rows.Subscript_ (binT ha hb I h fun v u s2 x y H2 I2 rx ry q => keyM pins s2 t H2 x y v u Q I2 rx ry q)⟩
    fun t H Q h => rd_two h fun x y Hf H m pa pb Q k => ⟨Hf, m, pa, pb, k⟩
/-! ### xs.pop() as a statement -/
theorem s_pop (k : Nat) {ad : Addr} {o : Expr} {apos cpos : Pos} (hM : M[k]? = some (.l ad Ps)) (ho : TyE X o G M (vAt ad)) (hl : 0 < Ps.length) (h : SOk X rest H0 G (M.set k (.l ad Ps.dropLast)) D)
    (hbase : attributeBase o "pop" X.env (eval o X.env) = eval o X.env := by rfl) (hline : (apos.endLine == cpos.line) = true := by rfl)
    (hs : swapsWith (.Call (.Attribute o "pop" apos) [] [] cpos) none pos.line X.env = pure false := by rfl) : SOk X (.Expr (.Call (.Attribute o "pop" apos) [] [] cpos) pos :: rest) H0 G M D :=
  s_cons (ps_expr (pe_bm0 PySem.F.plainAttrs_list PySem.F.slot_list_pop PySem.F.type_list_pop mt_pop ho hbase hline) hs) fun t Hf H s ok m => ⟨Hf, ok, m, fun v H1f H1 s1 m1 (pv : v = .ref ad) => by
    subst pv
    obtain ⟨xs, hx, its⟩ := m1.at_ hM
    have hlen := its.len
    have hlt : xs.length - 1 < xs.length := by omega
    refine ⟨.inl ⟨rfl, _, SqL.of hx⟩, ad, xs, xs[xs.length - 1], rfl, rfl, hx, List.getElem?_eq_getElem hlt, h t H1f _ (s.trans s1) (ok.mono s1) (m1.put hM ?_)⟩
    have := its.take (xs.length - 1)
    rw [← List.dropLast_eq_take, hlen, ← List.dropLast_eq_take] at this
    exact this⟩
end
end K31
set_option Elab.async false
set_option linter.all false
set_option maxRecDepth 100000
set_option maxHeartbeats 2000000
/-! T8: == of tuples of own instances, both answers. -/
namespace K31
open PySem PySem.Spec L2
open PySem.SeqAt
open AutoSeq1 (wpAny_loadPart')
section
variable {prog : Program} {w : World} {A : Around} {R : Result → Shared → Prop}
theorem tuple_eqB (l b : Addr) (items items2 : Array Value) (n n2 : Nat) (dd dd2 : Option Addr) (sl sl2 : Array (Option Value)) (I : Nat → Shared → Prop)
    (turn : ∀ i (h1 : i < items.size) (h2 : i < items2.size) s, I i s → wpAny (model prog w) A.in1 (eqBool items[i] items2[i]) (fun r s' => (r = true ∧ I (i + 1) s') ∨ (r = false ∧ R (.ok (.ret (.bool false))) s')) (fun e s' => R (.error e) s') s)
    (fin : ∀ s, I (min items.size items2.size) s → R (.ok (.ret (.bool (items.size == items2.size)))) s) {s : Shared} (hl1 : s.heap.get? l = some { cls := .type "tuple", dict := dd, data := .seq items n, slots := sl }) (hb1 : s.heap.get? b = some { cls := .type "tuple", dict := dd2, data := .seq items2 n2, slots := sl2 }) (h : I 0 s) :
    wpAny (model prog w) A.in1 (Builtin.«tuple.__eq__» ⟨[.ref l, .ref b], []⟩) (GQ.FinOf prog w A R) (fun e s' => R (.error e) s') s := by
  have f2 := AutoSeq1.sub_tuple_tuple
  have hZ : (items.toList.zip items2.toList).length = min items.size items2.size := by simp
  have h0 := h
  obtain ⟨hp, g, d, tk, os⟩ := s
  wp_walk using wpAny_loadPart' hl1, wpAny_loadPart' hb1, wpAny_forIn_list _ (fun rest b s' => (b.1 = none ∧ ∃ i, rest = (items.toList.zip items2.toList).drop i ∧ i ≤ min items.size items2.size ∧ I i s') ) _
  case turn =>
    rintro ⟨y, x⟩ rest b s' ⟨hb', i, hz, hi, hI⟩
    have hlt : i < (items.toList.zip items2.toList).length := by
      rcases Nat.lt_or_ge i (items.toList.zip items2.toList).length with h' | h'
      · exact h'
      · rw [List.drop_of_length_le h'] at hz; cases hz
    have h1 : i < items.size := by omega
    have h2 : i < items2.size := by omega
    rw [List.drop_eq_getElem_cons hlt] at hz
    injection hz with hyx hrest
    have hy : y = items[i] := by have := congrArg Prod.fst hyx; simpa using this
    have hx : x = items2[i] := by have := congrArg Prod.snd hyx; simpa using this
    subst hy hx
    refine wpAny_bind (wpAny_mono (turn i h1 h2 s' hI) (fun r s2 q2 => ?_) fun _ _ x => x)
    rcases q2 with ⟨hr, q2⟩ | ⟨hr, q2⟩
    · subst hr
      wp_walk
      exact ⟨rfl, i + 1, hrest, by omega, q2⟩
    · subst hr
      wp_walk
      exact q2
  case fin =>
    rintro ⟨b1, b2⟩ s' ⟨hb', i, hz, hi, hI⟩
    simp only at hb'
    subst hb'
    have hge : min items.size items2.size ≤ i := by
      rcases Nat.lt_or_ge i (items.toList.zip items2.toList).length with h' | h'
      · rw [List.drop_eq_getElem_cons h'] at hz; cases hz
      · exact hZ ▸ h'
    have hi' : i = min items.size items2.size := by omega
    have hR : R (.ok (.ret (.bool (items.size == items2.size)))) s' := fin s' (hi' ▸ hI)
    wp_walk
    simpa [Builtin.Tuple.tupleCompareSizes] using hR
  case h =>
    exact ⟨rfl, 0, rfl, Nat.zero_le _, h0⟩
end
section
variable {X : Cx}
theorem eqBool_same {P : Program} {w : World} {A : Around} {E : Value → Shared → Prop} {s : Shared} {a : Addr} {Q : Bool → Shared → Prop} (h : Q true s) : wpAny (model P w) A (eqBool (.ref a) (.ref a)) Q E s :=
  SeqAt.EqAt.same (A := A) (s := s) (.ref a) P w E Q h
/-- an own == below the running body -/
theorem own_eq_in1 {k j : Nat} {C : Addr} {fa fb : List (Str × VP)} {b : Bool} (c : MetT X.prog X.w X.K X.mg X.base k C "__eq__" [vIn C fa, vIn C fb] [] (vB b)) (hr : Room (j + 1) X.A) (hk : k ≤ j)
    {pins : List (Addr × Obj)} {t : L2.St} {H : Hp} {s : Shared} {x y : Addr} (I : Inv X pins t H s) (hx : (vIn C fa).p (.ref x) H) (hy : (vIn C fb).p (.ref y) H) :
    wpAny (model X.prog X.w) X.A.in1 (richCompare .Eq (.ref x) (.ref y)) (fun r s' => r = .bool b ∧ ∃ H', Inv X pins t H' s' ∧ Same H H') X.xe s := by
  obtain ⟨f, fd, ps, ds, hcl, hmt, F, bn, dv⟩ := c.ex
  have e : ds = [] := by cases dv; rfl
  subst e
  have hx' := hx
  have hy' := hy
  obtain ⟨ax, dx, gx, e1, hx, fx⟩ := hx
  obtain ⟨ay, dy, gy, e2, hy, fy⟩ := hy
  cases e1
  cases e2
  obtain ⟨odx, J⟩ := inst_of I hx
  obtain ⟨ody, J'⟩ := inst_of I hy
  obtain ⟨m, hF⟩ := I.fr
  refine PySem.W.cmp_K (op := .Eq) (tb := .ref C) hr.in1.units0 hF I.ok.mod.kin J J'.type (by simp [PySem.W.notFirst]) hmt.at_ hmt.fn ?_
  have hsp : spV [vIn C fa, vIn C fb] (vB b) ([.ref x, .ref y] ++ []) H (fun v H' => v = .bl b ∧ Same H H') (fun _ _ _ => False) := ⟨⟨hx', hy', trivial⟩, fun v H' s p => ⟨p, s⟩⟩
  have r2 : Vals ([V.ref x, V.ref y] ++ []) ([Value.ref x, Value.ref y] ++ []) := .cons rfl (.cons rfl .nil)
  have hl : ([.ref x, .ref y] ++ [] : List Value).length = ps.length := by rw [← r2.length]; exact F.len _ _ _ _ hsp
  refine wpAny_call (codeAny_mono (F.run X.A.in1 X.stack s H ⟨[.ref x, .ref y], []⟩ _ _ _ _ (hr.in1.mono hk) I.env0.in1 (bn s [.ref x, .ref y] I.kIn hl) r2 hsp) fun r s' hq => ?_)
  cases r with
  | error e => exact False.elim hq
  | ok fl =>
    cases fl with
    | ret w =>
      obtain ⟨z, H', I', rz, ez, sm⟩ := I.after hq
      subst ez
      cases rz
      exact ⟨rfl, H', I', sm⟩
    | next => exact False.elim hq
    | brk => exact False.elim hq
    | cont => exact False.elim hq
theorem getD_map {α : Type} {f : α → VP} {l : List α} {i : Nat} {x : V} {xs : List V} {H : Hp} (its : Items (l.map f) xs H) (h : xs[i]? = some x) : ∃ y, l[i]? = some y ∧ (f y).p x H := by
  have hl := its.len
  rw [List.length_map] at hl
  have hi : i < l.length := by rw [← hl]; exact (List.getElem?_eq_some_iff.mp h).1
  refine ⟨l[i], List.getElem?_eq_getElem hi, ?_⟩
  obtain ⟨z, hz, pz⟩ := its.get (i := i) (P := f l[i]) (by rw [List.getElem?_map, List.getElem?_eq_getElem hi]; rfl)
  rw [h] at hz
  cases hz
  exact pz
theorem o_eqTu {α : Type} [DecidableEq α] {k j : Nat} {C : Addr} {fa : α → List (Str × VP)} (l m : List α) (c : ∀ x y, x ∈ l → y ∈ m → MetT X.prog X.w X.K X.mg X.base k C "__eq__" [vIn C (fa x), vIn C (fa y)] [] (vB (decide (x = y)))) (hid : ∀ x y v H, (vIn C (fa x)).p v H → (vIn C (fa y)).p v H → x = y)
    (hr : Room (j + 1) X.A) (hk : k ≤ j) : OpT X (compareOp .Eq) (vTu (l.map fun x => vIn C (fa x))) (vTu (m.map fun x => vIn C (fa x))) (vB (decide (l = m))) := by
  intro pins s t H x y v u Q I rx ry w
  obtain ⟨⟨a, xs, rfl, hx, ix⟩, ⟨b, ys, rfl, hy, iy⟩, q⟩ := w
  cases rx
  cases ry
  show wpAny (model X.prog X.w) X.A (richCompare .Eq (.ref a) (.ref b)) (EP X pins t Q) X.xe s
  obtain ⟨its, r1, p1, _⟩ := I.tuple (SqT.of (K := X.K) hx)
  obtain ⟨its2, r2, p2, _⟩ := I.tuple (SqT.of (K := X.K) hy)
  obtain ⟨⟨cls, dd, data, sl⟩, ho, hc, n, hd⟩ := id p1
  obtain ⟨⟨cls2, dd2, data2, sl2⟩, ho2, hc2, n2, hd2⟩ := id p2
  simp only at hc hd hc2 hd2
  subst hc hd hc2 hd2
  have lx := ix.len
  have ly := iy.len
  rw [List.length_map] at lx ly
  have l1 := r1.length
  have l2 := r2.length
  have fin : ∀ (bb : Bool) (s' : Shared), bb = decide (l = m) → (∃ H', Inv X pins t H' s' ∧ Same H H') → EP X pins t Q (.bool bb) s' := fun bb s' e ⟨H', I', sm⟩ => ⟨.bl bb, H', I', rfl, q _ H' sm (by rw [e]; rfl)⟩
  refine wpAny_richCompare_same_room (op := .Eq) ⟨_, ho, rfl⟩ ⟨_, ho2, rfl⟩ PySem.F.slot_tuple_eq (GQ.call_here PySem.F.slot_tuple_eq ⟨_, ho, rfl⟩ PySem.F.entry_tuple_eq (PySem.F.args_tuple_eq_2 _ _) ?_) hr.units0
  refine tuple_eqB (R := wants (fun v s' => v ≠ .notImplemented ∧ EP X pins t Q v s') X.xe) a b its.toArray its2.toArray n n2 dd dd2 sl sl2 (fun i s' => (∃ H', Inv X pins t H' s' ∧ Same H H') ∧ l.take i = m.take i) (fun i h1 h2 s' hI => ?_) (fun s' hI => ?_) ho ho2 ⟨⟨H, I, Same.refl H⟩, by simp⟩
  · obtain ⟨⟨H1, I1, sm⟩, hp⟩ := hI
    have h1' : i < its.length := by simpa using h1
    have h2' : i < its2.length := by simpa using h2
    have kx : i < xs.length := by omega
    have ky : i < ys.length := by omega
    obtain ⟨u, hu, ru⟩ := r1.get (List.getElem?_eq_getElem kx)
    obtain ⟨v, hv, rv⟩ := r2.get (List.getElem?_eq_getElem ky)
    have eu : its.toArray[i] = u := by
      rw [List.getElem?_eq_getElem h1'] at hu
      have := Option.some.inj hu
      simpa using this
    have ev : its2.toArray[i] = v := by
      rw [List.getElem?_eq_getElem h2'] at hv
      have := Option.some.inj hv
      simpa using this
    rw [eu, ev]
    obtain ⟨α1, hα1, pα1⟩ := getD_map ix (List.getElem?_eq_getElem kx)
    obtain ⟨α2, hα2, pα2⟩ := getD_map iy (List.getElem?_eq_getElem ky)
    have q1 := (vIn C (fa α1)).m _ _ _ sm pα1
    have q2 := (vIn C (fa α2)).m _ _ _ sm pα2
    have m1 : α1 ∈ l := List.mem_of_getElem? hα1
    have m2 : α2 ∈ m := List.mem_of_getElem? hα2
    have step : ∀ s2, (∃ H', Inv X pins t H' s2 ∧ Same H H') → α1 = α2 → (∃ H', Inv X pins t H' s2 ∧ Same H H') ∧ l.take (i + 1) = m.take (i + 1) := fun s2 z e => ⟨z, by
      rw [List.take_succ, List.take_succ, hp, hα1, hα2, e]⟩
    have stop : ∀ s2, (∃ H', Inv X pins t H' s2 ∧ Same H H') → α1 ≠ α2 → wants (fun v s' => v ≠ .notImplemented ∧ EP X pins t Q v s') X.xe (.ok (.ret (.bool false))) s2 := fun s2 z e => ⟨(fun x => nomatch x), fin false s2 (by
      symm
      refine decide_eq_false fun z => e ?_
      rw [z, hα2] at hα1
      exact (Option.some.inj hα1).symm) z⟩
    obtain ⟨ad, dx, gx, e1, e2, e3⟩ := id q1
    obtain ⟨bd, dy, gy, e4, e5, e6⟩ := id q2
    rw [e1] at ru q1
    rw [e4] at rv q2
    cases ru
    cases rv
    by_cases hab : ad = bd
    · subst hab
      exact eqBool_same (.inl ⟨rfl, step s' ⟨H1, I1, sm⟩ (hid _ _ _ _ q1 q2)⟩)
    · refine GQ.eqBool_refG hab (wpAny_mono (own_eq_in1 (c α1 α2 m1 m2) hr hk I1 q1 q2) (fun r s2 z => ?_) fun _ _ z => z)
      obtain ⟨er, H2, I2, sm2⟩ := z
      refine ⟨_, er, ?_⟩
      by_cases e : α1 = α2
      · exact .inl ⟨decide_eq_true e, step s2 ⟨H2, I2, sm.trans sm2⟩ e⟩
      · exact .inr ⟨decide_eq_false e, stop s2 ⟨H2, I2, sm.trans sm2⟩ e⟩
  · obtain ⟨z, hp⟩ := hI
    refine ⟨(fun x => nomatch x), fin _ s' ?_ z⟩
    have s1 : its.toArray.size = l.length := by simp; omega
    have s2 : its2.toArray.size = m.length := by simp; omega
    rw [s1, s2] at hp ⊢
    by_cases e : l.length = m.length
    · have : l = m := by
        rw [e, Nat.min_self, List.take_of_length_le (Nat.le_of_eq e), List.take_of_length_le (Nat.le_refl _)] at hp
        exact hp
      rw [decide_eq_true this]
      simp [e]
    · have : ¬ l = m := fun z => e (by rw [z])
      rw [decide_eq_false this]
      simp [e]
end
end K31
set_option Elab.async false
set_option linter.all false
set_option maxHeartbeats 1000000
/-! M1: polynomials over Rat as trimmed lists; the commutative ring; length. -/
namespace K31

/-! ### sequences -/
abbrev PS := Nat → Rat
def tl (f : PS) : PS := fun i => f (i + 1)
def pmul : PS → PS → PS
  | f, g, 0 => f 0 * g 0
  | f, g, n + 1 => f 0 * g (n + 1) + pmul (tl f) g n
theorem pmul_zero' (f g : PS) : pmul f g 0 = f 0 * g 0 := by rw [pmul]
theorem pmul_succ (f g : PS) (n : Nat) : pmul f g (n + 1) = f 0 * g (n + 1) + pmul (tl f) g n := by rw [pmul]
theorem pmul_add (f g h : PS) : ∀ n, pmul f (fun i => g i + h i) n = pmul f g n + pmul f h n := by
  intro n
  induction n generalizing f with
  | zero => simp only [pmul_zero']; grind
  | succ n ih => simp only [pmul_succ, ih]; grind
theorem add_pmul (f g h : PS) : ∀ n, pmul (fun i => f i + g i) h n = pmul f h n + pmul g h n := by
  intro n
  induction n generalizing f g with
  | zero => simp only [pmul_zero']; grind
  | succ n ih =>
    simp only [pmul_succ]
    have := ih (tl f) (tl g)
    have e : tl (fun i => f i + g i) = fun i => tl f i + tl g i := rfl
    rw [e, this]
    grind
theorem smul_pmul (a : Rat) (f g : PS) : ∀ n, pmul (fun i => a * f i) g n = a * pmul f g n := by
  intro n
  induction n generalizing f with
  | zero => simp only [pmul_zero']; grind
  | succ n ih =>
    simp only [pmul_succ]
    have e : tl (fun i => a * f i) = fun i => a * tl f i := rfl
    rw [e, ih]
    grind
theorem pmul_succ' (f g : PS) : ∀ n, pmul f g (n + 1) = pmul f (tl g) n + f (n + 1) * g 0 := by
  intro n
  induction n generalizing f with
  | zero => simp only [pmul_succ, pmul_zero', tl]
  | succ n ih =>
    rw [pmul_succ, ih (tl f), pmul_succ f (tl g)]
    simp only [tl]
    grind
theorem pmul_comm (f g : PS) : ∀ n, pmul f g n = pmul g f n := by
  intro n
  induction n generalizing f g with
  | zero => simp only [pmul_zero']; grind
  | succ n ih =>
    rw [pmul_succ, pmul_succ', ih]
    grind
theorem pmul_assoc (f g h : PS) : ∀ n, pmul (pmul f g) h n = pmul f (pmul g h) n := by
  intro n
  induction n generalizing f with
  | zero => simp only [pmul_zero']; grind
  | succ n ih =>
    rw [pmul_succ, pmul_succ f]
    have e : tl (pmul f g) = fun i => (f 0 * tl g i) + pmul (tl f) g i := by
      funext i
      simp only [tl, pmul_succ]
    rw [e, add_pmul (fun i => f 0 * tl g i), smul_pmul, ih, pmul_zero', pmul_succ g]
    grind
theorem pmul_zeros (f g : PS) : ∀ n, (∀ i, i ≤ n → f i = 0 ∨ g (n - i) = 0) → pmul f g n = 0 := by
  intro n
  induction n generalizing f with
  | zero =>
    intro h
    rw [pmul_zero']
    rcases h 0 (Nat.le_refl 0) with h | h <;> rw [h] <;> grind
  | succ n ih =>
    intro h
    rw [pmul_succ, ih (tl f) (fun i hi => by
      have := h (i + 1) (by omega)
      have e : n + 1 - (i + 1) = n - i := by omega
      rw [e] at this
      exact this)]
    rcases h 0 (by omega) with h | h
    · rw [h]; grind
    · have e : n + 1 - 0 = n + 1 := rfl
      rw [e] at h
      rw [h]; grind
/-- the only pair that does not vanish -/
theorem pmul_one (f g : PS) : ∀ n k, k ≤ n → (∀ i, i ≤ n → i ≠ k → f i = 0 ∨ g (n - i) = 0) → pmul f g n = f k * g (n - k) := by
  intro n
  induction n generalizing f with
  | zero =>
    intro k hk h
    have : k = 0 := by omega
    subst this
    rw [pmul_zero']
  | succ n ih =>
    intro k hk h
    rw [pmul_succ]
    cases k with
    | zero =>
      rw [pmul_zeros (tl f) g n (fun i hi => by
        have := h (i + 1) (by omega) (by omega)
        have e : n + 1 - (i + 1) = n - i := by omega
        rw [e] at this
        exact this)]
      simp only [Nat.sub_zero]
      grind
    | succ k =>
      rw [ih (tl f) k (by omega) (fun i hi hne => by
        have := h (i + 1) (by omega) (by omega)
        have e : n + 1 - (i + 1) = n - i := by omega
        rw [e] at this
        exact this)]
      have e : n + 1 - (k + 1) = n - k := by omega
      rw [e]
      rcases h 0 (by omega) (by omega) with h | h
      · rw [h]; simp only [tl]; grind
      · have e : n + 1 - 0 = n + 1 := rfl
        rw [e] at h
        rw [h]; simp only [tl]; grind

/-! ### trimmed lists -/
def trimR : List Rat → List Rat
  | [] => []
  | a :: r => if a = 0 ∧ trimR r = [] then [] else a :: trimR r
def Trim (l : List Rat) : Prop := ∀ a, l.getLast? = some a → a ≠ 0
theorem trimR_get (l : List Rat) (i : Nat) : (trimR l).getD i 0 = l.getD i 0 := by
  induction l generalizing i with
  | nil => rfl
  | cons a r ih =>
    unfold trimR
    split
    · rename_i h
      obtain ⟨h0, h1⟩ := h
      cases i with
      | zero => simp [h0]
      | succ i =>
        have := ih i
        rw [h1] at this
        simpa using this
    · cases i with
      | zero => simp
      | succ i => simpa using ih i
theorem trimR_trim (l : List Rat) : Trim (trimR l) := by
  induction l with
  | nil => intro a h; simp [trimR] at h
  | cons a r ih =>
    unfold trimR
    split
    · intro a h; simp at h
    · rename_i h
      intro b hb
      cases e : trimR r with
      | nil =>
        rw [e] at hb
        simp at hb
        subst hb
        intro z
        exact h ⟨z, e⟩
      | cons c t =>
        rw [e] at hb
        rw [List.getLast?_cons_cons] at hb
        rw [← e] at hb
        exact ih b hb
theorem Trim.ext {l m : List Rat} (hl : Trim l) (hm : Trim m) (h : ∀ i, l.getD i 0 = m.getD i 0) : l = m := by
  have key : ∀ {l m : List Rat}, Trim l → (∀ i, l.getD i 0 = m.getD i 0) → l.length ≤ m.length := by
    intro l m hl h
    rcases Nat.lt_or_ge m.length l.length with hlt | hge
    · exfalso
      have h1 : l.getLast? = some (l[l.length - 1]'(by omega)) := by
        rw [List.getLast?_eq_getElem?, List.getElem?_eq_getElem]
      have h2 := hl _ h1
      have h3 := h (l.length - 1)
      rw [List.getD_eq_getElem?_getD, List.getD_eq_getElem?_getD, List.getElem?_eq_getElem (show l.length - 1 < l.length by omega), List.getElem?_eq_none (by omega)] at h3
      exact h2 h3
    · exact hge
  have e : l.length = m.length := Nat.le_antisymm (key hl h) (key hm fun i => (h i).symm)
  refine List.ext_getElem e fun i h1 h2 => ?_
  have := h i
  rw [List.getD_eq_getElem?_getD, List.getD_eq_getElem?_getD, List.getElem?_eq_getElem h1, List.getElem?_eq_getElem h2] at this
  exact this

structure Pol where
  l : List Rat
  t : Trim l
theorem Pol.eq_of {p q : Pol} (h : p.l = q.l) : p = q := by
  cases p; cases q; simp at h; subst h; rfl
instance : DecidableEq Pol := fun p q => if h : p.l = q.l then isTrue (Pol.eq_of h) else isFalse fun e => h (by rw [e])
/-- coefficient -/
def Pol.c (p : Pol) : PS := fun i => p.l.getD i 0
def Pol.len (p : Pol) : Nat := p.l.length
theorem Pol.ext {p q : Pol} (h : ∀ i, p.c i = q.c i) : p = q := Pol.eq_of (Trim.ext p.t q.t h)
theorem Pol.ext_iff {p q : Pol} : p = q ↔ ∀ i, p.c i = q.c i := ⟨fun e i => by rw [e], Pol.ext⟩
def ofList (l : List Rat) : Pol := ⟨trimR l, trimR_trim l⟩
theorem ofList_c (l : List Rat) (i : Nat) : (ofList l).c i = l.getD i 0 := trimR_get l i
theorem ofList_l (p : Pol) : ofList p.l = p := Pol.ext fun i => ofList_c _ i
/-- the first n of a sequence -/
def ofFn (n : Nat) (f : PS) : Pol := ofList ((List.range n).map f)
theorem ofFn_c (n : Nat) (f : PS) (i : Nat) : (ofFn n f).c i = if i < n then f i else 0 := by
  unfold ofFn
  rw [ofList_c, List.getD_eq_getElem?_getD, List.getElem?_map]
  by_cases h : i < n
  · rw [if_pos h, List.getElem?_range h]; rfl
  · rw [if_neg h, List.getElem?_eq_none (by rw [List.length_range]; omega)]; rfl
theorem Pol.c_ge {p : Pol} {i : Nat} (h : p.len ≤ i) : p.c i = 0 := by
  unfold Pol.c
  rw [List.getD_eq_getElem?_getD, List.getElem?_eq_none h]; rfl
theorem Pol.c_last {p : Pol} (h : 0 < p.len) : p.c (p.len - 1) ≠ 0 := by
  unfold Pol.len at h
  have h1 : p.l.getLast? = some (p.l[p.l.length - 1]'(by omega)) := by
    rw [List.getLast?_eq_getElem?, List.getElem?_eq_getElem]
  have := p.t _ h1
  unfold Pol.c Pol.len
  rw [List.getD_eq_getElem?_getD, List.getElem?_eq_getElem (show p.l.length - 1 < p.l.length by omega)]
  exact this
theorem Pol.len_le {p : Pol} {n : Nat} (h : ∀ i, n ≤ i → p.c i = 0) : p.len ≤ n := by
  rcases Nat.lt_or_ge n p.len with hlt | hge
  · exact absurd (h (p.len - 1) (by omega)) (Pol.c_last (by omega))
  · exact hge
theorem Pol.lt_len {p : Pol} {i : Nat} (h : p.c i ≠ 0) : i < p.len := by
  rcases Nat.lt_or_ge i p.len with hlt | hge
  · exact hlt
  · exact absurd (Pol.c_ge hge) h
theorem Pol.len_eq {p : Pol} {n : Nat} (h : ∀ i, n < i → p.c i = 0) (h1 : p.c n ≠ 0) : p.len = n + 1 := by
  have a := Pol.len_le (p := p) (n := n + 1) fun i hi => h i (by omega)
  have b := Pol.lt_len h1
  omega

/-! ### the ring -/
/-- a constant -/
def cst (a : Rat) : Pol := ofList [a]
instance (n : Nat) : OfNat Pol n := ⟨cst n⟩
instance : NatCast Pol := ⟨fun n => cst n⟩
instance : IntCast Pol := ⟨fun n => cst n⟩
instance : Add Pol := ⟨fun p q => ofFn (max p.len q.len) fun i => p.c i + q.c i⟩
instance : Neg Pol := ⟨fun p => ofFn p.len fun i => -p.c i⟩
instance : Sub Pol := ⟨fun p q => ofFn (max p.len q.len) fun i => p.c i - q.c i⟩
instance : Mul Pol := ⟨fun p q => ofFn (p.len + q.len) (pmul p.c q.c)⟩
theorem cst_c (a : Rat) (i : Nat) : (cst a).c i = if i = 0 then a else 0 := by
  unfold cst
  rw [ofList_c]
  cases i <;> simp
theorem one_eq : (1 : Pol) = cst 1 := rfl
theorem zero_eq : (0 : Pol) = cst 0 := rfl
theorem zero_c (i : Nat) : (0 : Pol).c i = 0 := by
  rw [zero_eq, cst_c]; simp
theorem one_c (i : Nat) : (1 : Pol).c i = if i = 0 then 1 else 0 := by
  rw [one_eq, cst_c]
theorem add_c (p q : Pol) (i : Nat) : (p + q).c i = p.c i + q.c i := by
  show (ofFn _ _).c i = _
  rw [ofFn_c]
  split
  · rfl
  · rw [Pol.c_ge (p := p) (by omega), Pol.c_ge (p := q) (by omega)]; grind
theorem sub_c (p q : Pol) (i : Nat) : (p - q).c i = p.c i - q.c i := by
  show (ofFn _ _).c i = _
  rw [ofFn_c]
  split
  · rfl
  · rw [Pol.c_ge (p := p) (by omega), Pol.c_ge (p := q) (by omega)]; grind
theorem neg_c (p : Pol) (i : Nat) : (-p).c i = -p.c i := by
  show (ofFn _ _).c i = _
  rw [ofFn_c]
  split
  · rfl
  · rw [Pol.c_ge (p := p) (by omega)]; grind
theorem pmul_big (p q : Pol) {i : Nat} (h : p.len + q.len ≤ i + 1) : pmul p.c q.c i = 0 := by
  refine pmul_zeros _ _ _ fun j hj => ?_
  rcases Nat.lt_or_ge j p.len with h1 | h1
  · exact .inr (Pol.c_ge (by omega))
  · exact .inl (Pol.c_ge h1)
theorem mul_c (p q : Pol) (i : Nat) : (p * q).c i = pmul p.c q.c i := by
  show (ofFn _ _).c i = _
  rw [ofFn_c]
  split
  · rfl
  · rw [pmul_big p q (by omega)]
theorem c_mul_fun (p q : Pol) : (p * q).c = pmul p.c q.c := funext (mul_c p q)
theorem pmul_cst (a : Rat) (f : PS) (i : Nat) : pmul (cst a).c f i = a * f i := by
  rw [pmul_one (cst a).c f i 0 (Nat.zero_le _) fun j _ hj => .inl (by rw [cst_c, if_neg hj])]
  rw [cst_c]; simp
theorem cst_mul_c (a : Rat) (p : Pol) (i : Nat) : (cst a * p).c i = a * p.c i := by
  rw [mul_c, pmul_cst]
namespace Pol
theorem add_comm (p q : Pol) : p + q = q + p := ext fun i => by rw [add_c, add_c]; grind
theorem add_assoc (p q r : Pol) : p + q + r = p + (q + r) := ext fun i => by simp only [add_c]; grind
theorem add_zero (p : Pol) : p + 0 = p := ext fun i => by rw [add_c, zero_c]; grind
theorem neg_add_cancel (p : Pol) : -p + p = 0 := ext fun i => by rw [add_c, neg_c, zero_c]; grind
theorem sub_eq_add_neg (p q : Pol) : p - q = p + -q := ext fun i => by rw [add_c, neg_c, sub_c]; grind
theorem mul_comm (p q : Pol) : p * q = q * p := ext fun i => by rw [mul_c, mul_c, pmul_comm]
theorem mul_assoc (p q r : Pol) : p * q * r = p * (q * r) := ext fun i => by rw [mul_c, mul_c, c_mul_fun, c_mul_fun, pmul_assoc]
theorem mul_add (p q r : Pol) : p * (q + r) = p * q + p * r := ext fun i => by
  rw [mul_c, add_c, mul_c, mul_c, ← pmul_add]
  congr 1
  funext j
  exact add_c q r j
theorem one_mul (p : Pol) : 1 * p = p := ext fun i => by rw [one_eq, cst_mul_c]; grind
theorem zero_mul (p : Pol) : 0 * p = 0 := ext fun i => by rw [zero_eq, cst_mul_c, cst_c]; grind
def npow (p : Pol) : Nat → Pol
  | 0 => 1
  | n + 1 => npow p n * p
end Pol
theorem cst_add (a b : Rat) : cst (a + b) = cst a + cst b := Pol.ext fun i => by rw [add_c, cst_c, cst_c, cst_c]; split <;> grind
theorem cst_neg (a : Rat) : cst (-a) = -cst a := Pol.ext fun i => by rw [neg_c, cst_c, cst_c]; split <;> grind
theorem cst_mul (a b : Rat) : cst (a * b) = cst a * cst b := Pol.ext fun i => by rw [cst_mul_c, cst_c, cst_c]; split <;> grind
instance : SMul Nat Pol := ⟨fun n p => cst n * p⟩
instance : SMul Int Pol := ⟨fun n p => cst n * p⟩
instance : HPow Pol Nat Pol := ⟨Pol.npow⟩
instance : Lean.Grind.CommRing Pol where
  nsmul := inferInstance
  zsmul := inferInstance
  npow := inferInstance
  ofNat := inferInstance
  natCast := inferInstance
  intCast := inferInstance
  add_zero := Pol.add_zero
  add_comm := Pol.add_comm
  add_assoc := Pol.add_assoc
  mul_assoc := Pol.mul_assoc
  mul_comm := Pol.mul_comm
  mul_one p := by rw [Pol.mul_comm, Pol.one_mul]
  one_mul := Pol.one_mul
  left_distrib := Pol.mul_add
  right_distrib p q r := by rw [Pol.mul_comm, Pol.mul_add, Pol.mul_comm r p, Pol.mul_comm r q]
  zero_mul := Pol.zero_mul
  mul_zero p := by rw [Pol.mul_comm, Pol.zero_mul]
  pow_zero _ := rfl
  pow_succ _ _ := rfl
  ofNat_succ n := by
    show cst ((n + 1 : Nat) : Rat) = cst n + cst 1
    rw [← cst_add]
    congr 1
    grind
  ofNat_eq_natCast _ := rfl
  nsmul_eq_natCast_mul _ _ := rfl
  neg_add_cancel := Pol.neg_add_cancel
  sub_eq_add_neg := Pol.sub_eq_add_neg
  neg_zsmul i p := by
    show cst ((-i : Int) : Rat) * p = -(cst i * p)
    refine Pol.ext fun k => ?_
    rw [neg_c, cst_mul_c, cst_mul_c]
    have : ((-i : Int) : Rat) = -(i : Rat) := by simp
    rw [this]; grind
  zsmul_natCast_eq_nsmul n p := rfl
  intCast_ofNat n := rfl
  intCast_neg i := by
    show cst ((-i : Int) : Rat) = -cst i
    rw [← cst_neg]
    simp
example (p q r : Pol) : (p + q) * r = r * q + p * r := by grind
example (p q r : Pol) (h : p * q = r) : (p + q) * q = r + q * q := by grind

/-! ### length -/
theorem len_zero : (0 : Pol).len = 0 := by
  have := Pol.len_le (p := 0) (n := 0) fun i _ => zero_c i
  omega
theorem Pol.len_eq_zero {p : Pol} : p.len = 0 ↔ p = 0 := by
  constructor
  · intro h
    refine Pol.ext fun i => ?_
    rw [zero_c, Pol.c_ge (by omega)]
  · intro h
    rw [h, len_zero]
theorem Pol.len_pos {p : Pol} (h : p ≠ 0) : 0 < p.len := by
  rcases Nat.eq_zero_or_pos p.len with e | e
  · exact absurd (Pol.len_eq_zero.mp e) h
  · exact e
theorem Pol.ne_of_c {p : Pol} {i : Nat} (h : p.c i ≠ 0) : p ≠ 0 := by
  intro e
  rw [e, zero_c] at h
  exact h rfl
/-- the last coefficient -/
def Pol.lc (p : Pol) : Rat := p.c (p.len - 1)
theorem Pol.lc_ne {p : Pol} (h : p ≠ 0) : p.lc ≠ 0 := Pol.c_last (Pol.len_pos h)
theorem mul_top {p q : Pol} (hp : p ≠ 0) (hq : q ≠ 0) : (p * q).c (p.len + q.len - 2) = p.lc * q.lc := by
  have h1 := Pol.len_pos hp
  have h2 := Pol.len_pos hq
  rw [mul_c, pmul_one _ _ _ (p.len - 1) (by omega) fun i hi hne => ?_]
  · unfold Pol.lc
    congr 2
    omega
  · rcases Nat.lt_or_ge i (p.len - 1) with h | h
    · exact .inr (Pol.c_ge (by omega))
    · exact .inl (Pol.c_ge (by omega))
theorem mul_ne {p q : Pol} (hp : p ≠ 0) (hq : q ≠ 0) : p * q ≠ 0 := by
  refine Pol.ne_of_c (i := p.len + q.len - 2) ?_
  rw [mul_top hp hq]
  have := Pol.lc_ne hp
  have := Pol.lc_ne hq
  intro z
  rcases Rat.mul_eq_zero.mp z with z | z <;> contradiction
theorem mul_eq_zero' {p q : Pol} (h : p * q = 0) : p = 0 ∨ q = 0 := by
  by_cases hp : p = 0
  · exact .inl hp
  · by_cases hq : q = 0
    · exact .inr hq
    · exact absurd h (mul_ne hp hq)
theorem mul_len {p q : Pol} (hp : p ≠ 0) (hq : q ≠ 0) : (p * q).len = p.len + q.len - 1 := by
  have h1 := Pol.len_pos hp
  have h2 := Pol.len_pos hq
  have e : p.len + q.len - 1 = (p.len + q.len - 2) + 1 := by omega
  rw [e]
  refine Pol.len_eq (fun i hi => ?_) ?_
  · rw [mul_c]; exact pmul_big p q (by omega)
  · rw [mul_top hp hq]
    intro z
    rcases Rat.mul_eq_zero.mp z with z | z
    · exact Pol.lc_ne hp z
    · exact Pol.lc_ne hq z
theorem mul_lc {p q : Pol} (hp : p ≠ 0) (hq : q ≠ 0) : (p * q).lc = p.lc * q.lc := by
  have h1 := Pol.len_pos hp
  have h2 := Pol.len_pos hq
  rw [← mul_top hp hq]
  show (p * q).c ((p * q).len - 1) = _
  rw [mul_len hp hq]
  congr 1
theorem mul_len_le (p q : Pol) : (p * q).len ≤ p.len + q.len - 1 := by
  by_cases hp : p = 0
  · rw [hp, Pol.zero_mul, len_zero]; omega
  · by_cases hq : q = 0
    · rw [hq, Pol.mul_comm, Pol.zero_mul, len_zero]; omega
    · rw [mul_len hp hq]; omega
theorem mul_cancel {p q r : Pol} (hr : r ≠ 0) (h : p * r = q * r) : p = q := by
  have : (p - q) * r = 0 := by grind
  rcases mul_eq_zero' this with h | h
  · grind
  · contradiction
theorem add_len_le (p q : Pol) : (p + q).len ≤ max p.len q.len := Pol.len_le fun i hi => by
  rw [add_c, Pol.c_ge (p := p) (by omega), Pol.c_ge (p := q) (by omega)]; grind
theorem sub_len_le (p q : Pol) : (p - q).len ≤ max p.len q.len := Pol.len_le fun i hi => by
  rw [sub_c, Pol.c_ge (p := p) (by omega), Pol.c_ge (p := q) (by omega)]; grind
theorem neg_len (p : Pol) : (-p).len = p.len := by
  have h : ∀ p : Pol, (-p).len ≤ p.len := fun p => Pol.len_le fun i hi => by
    rw [neg_c, Pol.c_ge hi]; grind
  have a := h p
  have b := h (-p)
  have e : - -p = p := by grind
  rw [e] at b
  omega
theorem cst_len_le (a : Rat) : (cst a).len ≤ 1 := Pol.len_le fun i hi => by
  rw [cst_c, if_neg (by omega)]
theorem cst_ne {a : Rat} (h : a ≠ 0) : cst a ≠ 0 := Pol.ne_of_c (i := 0) (by rw [cst_c]; simpa using h)
theorem cst_len {a : Rat} (h : a ≠ 0) : (cst a).len = 1 := by
  have := Pol.len_pos (cst_ne h)
  have := cst_len_le a
  omega
theorem cst_lc (a : Rat) : (cst a).lc = a := by
  by_cases h : a = 0
  · subst h
    show (cst 0).c _ = 0
    rw [← zero_eq, zero_c]
  · show (cst a).c _ = a
    rw [cst_len h, cst_c]; simp
theorem one_ne : (1 : Pol) ≠ 0 := cst_ne (by decide)
theorem one_len : (1 : Pol).len = 1 := cst_len (by decide)
/-- what has at most one coefficient is a constant -/
theorem len_one {p : Pol} (h : p.len ≤ 1) : p = cst (p.c 0) := Pol.ext fun i => by
  rw [cst_c]
  split
  · rename_i e; rw [e]
  · exact Pol.c_ge (by omega)
/-- x ^ k -/
def xk (k : Nat) : Pol := ofFn (k + 1) fun i => if i = k then 1 else 0
theorem xk_c (k i : Nat) : (xk k).c i = if i = k then 1 else 0 := by
  unfold xk
  rw [ofFn_c]
  by_cases h : i = k
  · rw [if_pos (by omega), if_pos h]
  · rw [if_neg h]; split <;> rfl
theorem xk_mul_c (k : Nat) (p : Pol) (i : Nat) : (xk k * p).c i = if k ≤ i then p.c (i - k) else 0 := by
  rw [mul_c]
  by_cases h : k ≤ i
  · rw [if_pos h, pmul_one _ _ _ k h fun j _ hj => .inl (by rw [xk_c, if_neg hj]), xk_c]
    simp
  · rw [if_neg h]
    refine pmul_zeros _ _ _ fun j hj => .inl ?_
    rw [xk_c, if_neg (by omega)]
end K31
set_option Elab.async false
set_option linter.all false
set_option maxHeartbeats 1000000
/-! M2: the derivative, division, the greatest common divisor. -/
namespace K31
/-! ### the derivative -/
def theta (f : PS) : PS := fun i => (i : Rat) * f i
theorem theta_mul (f g : PS) : ∀ n : Nat, (n : Rat) * pmul f g n = pmul (theta f) g n + pmul f (theta g) n := by
  intro n
  induction n generalizing f with
  | zero => simp only [pmul_zero', theta]; grind
  | succ n ih =>
    rw [pmul_succ, pmul_succ, pmul_succ f]
    have e : tl (theta f) = fun i => theta (tl f) i + tl f i := by
      funext i
      simp only [tl, theta]
      have : ((i + 1 : Nat) : Rat) = (i : Rat) + 1 := by grind
      rw [this]; grind
    rw [e, add_pmul]
    have h := ih (tl f)
    have : ((n + 1 : Nat) : Rat) = (n : Rat) + 1 := by grind
    simp only [theta] at *
    rw [this]
    grind
def dps (f : PS) : PS := fun i => ((i + 1 : Nat) : Rat) * f (i + 1)
theorem dps_mul (f g : PS) (n : Nat) : dps (pmul f g) n = pmul (dps f) g n + pmul f (dps g) n := by
  have h := theta_mul f g (n + 1)
  rw [pmul_succ (theta f), pmul_succ' f (theta g)] at h
  have e1 : tl (theta f) = dps f := rfl
  have e2 : tl (theta g) = dps g := rfl
  rw [e1, e2] at h
  have e3 : theta f 0 = 0 := by simp only [theta]; grind
  have e4 : theta g 0 = 0 := by simp only [theta]; grind
  rw [e3, e4] at h
  show ((n + 1 : Nat) : Rat) * pmul f g (n + 1) = _
  rw [h]; grind
def Pol.D (p : Pol) : Pol := ofFn (p.len - 1) (dps p.c)
theorem D_c (p : Pol) (i : Nat) : p.D.c i = ((i + 1 : Nat) : Rat) * p.c (i + 1) := by
  show (ofFn _ _).c i = _
  rw [ofFn_c]
  split
  · rfl
  · rw [Pol.c_ge (p := p) (by omega)]; grind
theorem D_fun (p : Pol) : p.D.c = dps p.c := funext (D_c p)
theorem D_add (p q : Pol) : (p + q).D = p.D + q.D := Pol.ext fun i => by
  rw [add_c, D_c, D_c, D_c, add_c]; grind
theorem D_neg (p : Pol) : (-p).D = -p.D := Pol.ext fun i => by
  rw [neg_c, D_c, D_c, neg_c]; grind
theorem D_sub (p q : Pol) : (p - q).D = p.D - q.D := Pol.ext fun i => by
  rw [sub_c, D_c, D_c, D_c, sub_c]; grind
theorem D_mul (p q : Pol) : (p * q).D = p.D * q + p * q.D := Pol.ext fun i => by
  rw [add_c, mul_c p.D, mul_c p q.D, D_fun p, D_fun q, ← dps_mul, D_c, c_mul_fun]
  rfl
theorem D_cst (a : Rat) : (cst a).D = 0 := Pol.ext fun i => by
  rw [zero_c, D_c, cst_c, if_neg (by omega)]; grind
theorem D_len_le (p : Pol) : p.D.len ≤ p.len - 1 := Pol.len_le fun i hi => by
  rw [D_c, Pol.c_ge (p := p) (by omega)]; grind

/-! ### division -/
theorem div_step {p m : Pol} (hp : p ≠ 0) (hm : m ≠ 0) (h : m.len ≤ p.len) : (p - cst (p.lc * m.lc⁻¹) * xk (p.len - m.len) * m).len < p.len := by
  have h1 := Pol.len_pos hp
  have h2 := Pol.len_pos hm
  have key : ∀ i, (cst (p.lc * m.lc⁻¹) * xk (p.len - m.len) * m).c i = p.lc * m.lc⁻¹ * if p.len - m.len ≤ i then m.c (i - (p.len - m.len)) else 0 := fun i => by
    rw [Pol.mul_assoc, cst_mul_c, xk_mul_c]
  have : (p - cst (p.lc * m.lc⁻¹) * xk (p.len - m.len) * m).len ≤ p.len - 1 := Pol.len_le fun i hi => by
    rw [sub_c, key, if_pos (by omega)]
    rcases Nat.lt_or_ge i p.len with hlt | hge
    · have e : i = p.len - 1 := by omega
      subst e
      have e2 : p.len - 1 - (p.len - m.len) = m.len - 1 := by omega
      rw [e2]
      have := Pol.lc_ne hm
      show p.lc - p.lc * m.lc⁻¹ * m.lc = 0
      grind
    · rw [Pol.c_ge hge, Pol.c_ge (p := m) (by omega)]; grind
  omega
theorem div_ex (m : Pol) (hm : m ≠ 0) : ∀ (n : Nat) (p : Pol), p.len ≤ n → ∃ q r, p = q * m + r ∧ r.len < m.len := by
  intro n
  induction n with
  | zero =>
    intro p hp
    exact ⟨0, p, by grind, by have := Pol.len_pos hm; omega⟩
  | succ n ih =>
    intro p hp
    rcases Nat.lt_or_ge p.len m.len with h | h
    · exact ⟨0, p, by grind, h⟩
    · have hp0 : p ≠ 0 := fun e => by
        rw [e, len_zero] at h
        have := Pol.len_pos hm
        omega
      have hs := div_step hp0 hm h
      obtain ⟨q, r, e, hr⟩ := ih (p - cst (p.lc * m.lc⁻¹) * xk (p.len - m.len) * m) (by omega)
      exact ⟨cst (p.lc * m.lc⁻¹) * xk (p.len - m.len) + q, r, by grind, hr⟩
theorem div_unique {m q r q' r' : Pol} (h : q * m + r = q' * m + r') (hr : r.len < m.len) (hr' : r'.len < m.len) : q = q' ∧ r = r' := by
  have hm : m ≠ 0 := fun e => by rw [e, len_zero] at hr; omega
  have e : (q - q') * m = r' - r := by grind
  by_cases hq : q - q' = 0
  · have e1 : q = q' := by grind
    subst e1
    exact ⟨rfl, by grind⟩
  · exfalso
    have h1 := mul_len hq hm
    have h2 := Pol.len_pos hq
    have h3 := sub_len_le r' r
    rw [e] at h1
    omega

/-! ### divisibility -/
instance : Dvd Pol := ⟨fun p q => ∃ k, q = p * k⟩
theorem dvd_of {p q k : Pol} (h : q = p * k) : p ∣ q := ⟨k, h⟩
theorem dvd_refl' (p : Pol) : p ∣ p := ⟨1, by grind⟩
theorem dvd_trans' {p q r : Pol} (h : p ∣ q) (h' : q ∣ r) : p ∣ r := by
  obtain ⟨k, rfl⟩ := h
  obtain ⟨j, rfl⟩ := h'
  exact ⟨k * j, by grind⟩
theorem dvd_comb {d p q u v : Pol} (h : d ∣ p) (h' : d ∣ q) : d ∣ u * p + v * q := by
  obtain ⟨k, rfl⟩ := h
  obtain ⟨j, rfl⟩ := h'
  exact ⟨u * k + v * j, by grind⟩
theorem dvd_zero' (p : Pol) : p ∣ 0 := ⟨0, by grind⟩
theorem dvd_len {p q : Pol} (h : p ∣ q) (hq : q ≠ 0) : p.len ≤ q.len := by
  obtain ⟨k, rfl⟩ := h
  have hp : p ≠ 0 := fun e => hq (by rw [e]; grind)
  have hk : k ≠ 0 := fun e => hq (by rw [e]; grind)
  have := mul_len hp hk
  have := Pol.len_pos hk
  omega
theorem dvd_antisymm' {p q : Pol} (h : p ∣ q) (h' : q ∣ p) (hp : p.lc = 1) (hq : q.lc = 1) : p = q := by
  have hp0 : p ≠ 0 := fun e => by
    rw [e] at hp
    have : (0 : Pol).lc = 0 := zero_c _
    rw [this] at hp
    exact absurd hp (by decide)
  have hq0 : q ≠ 0 := fun e => by
    rw [e] at hq
    have : (0 : Pol).lc = 0 := zero_c _
    rw [this] at hq
    exact absurd hq (by decide)
  have l1 := dvd_len h hq0
  have l2 := dvd_len h' hp0
  obtain ⟨k, rfl⟩ := h
  have hk : k ≠ 0 := fun e => hq0 (by rw [e]; grind)
  have e1 := mul_len hp0 hk
  have e2 := Pol.len_pos hk
  have e3 := Pol.len_pos hp0
  have hk1 : k.len ≤ 1 := by omega
  rw [mul_lc hp0 hk, hp] at hq
  have e4 := len_one hk1
  have e5 : k.lc = k.c 0 := by
    unfold Pol.lc
    have : k.len - 1 = 0 := by omega
    rw [this]
  rw [← e5] at e4
  have : k.lc = 1 := by grind
  rw [this] at e4
  rw [e4]
  show p = p * 1
  grind

/-! ### Bezout -/
theorem monic_of {g : Pol} (h : g ≠ 0) : (cst g.lc⁻¹ * g).lc = 1 := by
  have h1 := Pol.lc_ne h
  have h2 : g.lc⁻¹ ≠ 0 := by grind
  rw [mul_lc (cst_ne h2) h, cst_lc]
  grind
theorem bezout : ∀ (n : Nat) (p q : Pol), q.len ≤ n → ∃ g u v, g = u * p + v * q ∧ g ∣ p ∧ g ∣ q := by
  intro n
  induction n with
  | zero =>
    intro p q h
    have : q = 0 := Pol.len_eq_zero.mp (by omega)
    subst this
    exact ⟨p, 1, 0, by grind, dvd_refl' p, dvd_zero' p⟩
  | succ n ih =>
    intro p q h
    by_cases hq : q = 0
    · subst hq
      exact ⟨p, 1, 0, by grind, dvd_refl' p, dvd_zero' p⟩
    · obtain ⟨k, r, e, hr⟩ := div_ex q hq _ p (Nat.le_refl _)
      obtain ⟨g, u, v, eg, d1, d2⟩ := ih q r (by omega)
      refine ⟨g, v, u - v * k, by grind, ?_, d1⟩
      have := dvd_comb (u := k) (v := 1) d1 d2
      have e2 : k * q + 1 * r = p := by grind
      rw [e2] at this
      exact this
theorem gcd_ex {p q : Pol} (h : p ≠ 0 ∨ q ≠ 0) : ∃ g u v, g = u * p + v * q ∧ g ∣ p ∧ g ∣ q ∧ g.lc = 1 := by
  obtain ⟨g, u, v, e, d1, d2⟩ := bezout _ p q (Nat.le_refl _)
  have hg : g ≠ 0 := fun z => by
    subst z
    obtain ⟨a, ha⟩ := d1
    obtain ⟨b, hb⟩ := d2
    rcases h with h | h
    · exact h (by grind)
    · exact h (by grind)
  have h1 := Pol.lc_ne hg
  refine ⟨cst g.lc⁻¹ * g, cst g.lc⁻¹ * u, cst g.lc⁻¹ * v, by grind, ?_, ?_, monic_of hg⟩
  all_goals
    have e1 : cst g.lc * cst g.lc⁻¹ = 1 := by
      rw [← cst_mul, one_eq]
      congr 1
      grind
  · obtain ⟨a, ha⟩ := d1
    exact ⟨cst g.lc * a, by grind⟩
  · obtain ⟨a, ha⟩ := d2
    exact ⟨cst g.lc * a, by grind⟩
def Cop (p q : Pol) : Prop := ∃ u v, u * p + v * q = 1
theorem Cop.dvd {p q r : Pol} (h : Cop p q) (d : p ∣ q * r) : p ∣ r := by
  obtain ⟨u, v, e⟩ := h
  obtain ⟨k, hk⟩ := d
  exact ⟨u * r + v * k, by grind⟩
theorem Cop.symm {p q : Pol} (h : Cop p q) : Cop q p := by
  obtain ⟨u, v, e⟩ := h
  exact ⟨v, u, by grind⟩
theorem lc_zero : (0 : Pol).lc = 0 := zero_c _
theorem monic_ne {p : Pol} (h : p.lc = 1) : p ≠ 0 := fun e => by
  rw [e, lc_zero] at h
  exact absurd h (by decide)
end K31
set_option Elab.async false
set_option linter.all false
set_option maxHeartbeats 1000000
/-! M3: rational functions in lowest terms, the field, the derivation. -/
namespace K31
structure RF where
  num : Pol
  den : Pol
  mon : den.lc = 1
  cop : Cop num den
theorem RF.eq_of {f g : RF} (h1 : f.num = g.num) (h2 : f.den = g.den) : f = g := by
  cases f; cases g; simp at h1 h2; subst h1 h2; rfl
instance : DecidableEq RF := fun f g => if h : f.num = g.num ∧ f.den = g.den then isTrue (RF.eq_of h.1 h.2) else isFalse fun e => h (by rw [e]; exact ⟨rfl, rfl⟩)
theorem RF.den_ne (f : RF) : f.den ≠ 0 := monic_ne f.mon
theorem RF.cross {f g : RF} (h : f.num * g.den = g.num * f.den) : f = g := by
  have d1 : f.den ∣ g.den := f.cop.symm.dvd ⟨g.num, by grind⟩
  have d2 : g.den ∣ f.den := g.cop.symm.dvd ⟨f.num, by grind⟩
  have e := dvd_antisymm' d1 d2 f.mon g.mon
  refine RF.eq_of (mul_cancel f.den_ne ?_) e
  rw [← e] at h
  exact h
theorem frac_ex (N D : Pol) (hD : D ≠ 0) : ∃ f : RF, f.num * D = N * f.den := by
  obtain ⟨g, u, v, e, ⟨n, hn⟩, ⟨d, hd⟩, hg⟩ := gcd_ex (p := N) (q := D) (.inr hD)
  have hg0 := monic_ne hg
  have hd0 : d ≠ 0 := fun z => hD (by rw [hd, z]; grind)
  have h1 : u * n + v * d = 1 := mul_cancel hg0 (by grind)
  have hl := Pol.lc_ne hd0
  have e1 : cst d.lc * cst d.lc⁻¹ = 1 := by
    rw [← cst_mul, one_eq]
    congr 1
    grind
  refine ⟨⟨cst d.lc⁻¹ * n, cst d.lc⁻¹ * d, monic_of hd0, ⟨cst d.lc * u, cst d.lc * v, by grind⟩⟩, ?_⟩
  show cst d.lc⁻¹ * n * D = N * (cst d.lc⁻¹ * d)
  grind
noncomputable def frac (N D : Pol) : RF := if h : D ≠ 0 then (frac_ex N D h).choose else (frac_ex 0 1 one_ne).choose
theorem frac_spec {N D : Pol} (h : D ≠ 0) : (frac N D).num * D = N * (frac N D).den := by
  unfold frac
  rw [dif_pos h]
  exact (frac_ex N D h).choose_spec
theorem frac_of {N D : Pol} {f : RF} (h : D ≠ 0) (e : f.num * D = N * f.den) : frac N D = f := by
  refine RF.cross ?_
  have := frac_spec (N := N) h
  refine mul_cancel h ?_
  grind
theorem frac_eq {N D N' D' : Pol} (h : D ≠ 0) (h' : D' ≠ 0) (e : N * D' = N' * D) : frac N D = frac N' D' := by
  have s := frac_spec (N := N') h'
  refine frac_of h (mul_cancel h' ?_)
  grind
theorem frac_inj {N D N' D' : Pol} (h : D ≠ 0) (h' : D' ≠ 0) (e : frac N D = frac N' D') : N * D' = N' * D := by
  have s := frac_spec (N := N) h
  have s' := frac_spec (N := N') h'
  rw [← e] at s'
  refine mul_cancel (frac N D).den_ne ?_
  grind
theorem frac_self (f : RF) : frac f.num f.den = f := frac_of f.den_ne rfl
theorem RF.ex (f : RF) : ∃ N D, D ≠ 0 ∧ f = frac N D := ⟨f.num, f.den, f.den_ne, (frac_self f).symm⟩

noncomputable instance : Add RF := ⟨fun f g => frac (f.num * g.den + g.num * f.den) (f.den * g.den)⟩
noncomputable instance : Sub RF := ⟨fun f g => frac (f.num * g.den - g.num * f.den) (f.den * g.den)⟩
noncomputable instance : Mul RF := ⟨fun f g => frac (f.num * g.num) (f.den * g.den)⟩
noncomputable instance : Neg RF := ⟨fun f => frac (-f.num) f.den⟩
noncomputable instance : Inv RF := ⟨fun f => if f.num = 0 then f else frac f.den f.num⟩
noncomputable instance : Div RF := ⟨fun f g => f * g⁻¹⟩
noncomputable def cR (a : Rat) : RF := frac (cst a) 1
noncomputable instance (n : Nat) : OfNat RF n := ⟨cR n⟩
noncomputable instance : NatCast RF := ⟨fun n => cR n⟩
noncomputable instance : IntCast RF := ⟨fun n => cR n⟩
theorem add_frac {N D N' D' : Pol} (h : D ≠ 0) (h' : D' ≠ 0) : frac N D + frac N' D' = frac (N * D' + N' * D) (D * D') := by
  have s := frac_spec (N := N) h
  have s' := frac_spec (N := N') h'
  refine frac_eq (mul_ne (RF.den_ne _) (RF.den_ne _)) (mul_ne h h') ?_
  grind
theorem sub_frac {N D N' D' : Pol} (h : D ≠ 0) (h' : D' ≠ 0) : frac N D - frac N' D' = frac (N * D' - N' * D) (D * D') := by
  have s := frac_spec (N := N) h
  have s' := frac_spec (N := N') h'
  refine frac_eq (mul_ne (RF.den_ne _) (RF.den_ne _)) (mul_ne h h') ?_
  grind
theorem mul_frac {N D N' D' : Pol} (h : D ≠ 0) (h' : D' ≠ 0) : frac N D * frac N' D' = frac (N * N') (D * D') := by
  have s := frac_spec (N := N) h
  have s' := frac_spec (N := N') h'
  refine frac_eq (mul_ne (RF.den_ne _) (RF.den_ne _)) (mul_ne h h') ?_
  grind
theorem neg_frac {N D : Pol} (h : D ≠ 0) : -frac N D = frac (-N) D := by
  have s := frac_spec (N := N) h
  refine frac_eq (RF.den_ne _) h ?_
  grind
theorem frac_num_zero {N D : Pol} (h : D ≠ 0) : (frac N D).num = 0 ↔ N = 0 := by
  have s := frac_spec (N := N) h
  constructor
  · intro e
    rw [e] at s
    have : N * (frac N D).den = 0 := by grind
    rcases mul_eq_zero' this with z | z
    · exact z
    · exact absurd z (RF.den_ne _)
  · intro e
    rw [e] at s
    have : (frac N D).num * D = 0 := by rw [e]; grind
    rcases mul_eq_zero' this with z | z
    · exact z
    · exact absurd z h
theorem inv_frac {N D : Pol} (hN : N ≠ 0) (h : D ≠ 0) : (frac N D)⁻¹ = frac D N := by
  have s := frac_spec (N := N) h
  have hn : (frac N D).num ≠ 0 := fun e => hN ((frac_num_zero h).mp e)
  show (if (frac N D).num = 0 then frac N D else frac (frac N D).den (frac N D).num) = _
  rw [if_neg hn]
  refine frac_eq hn hN ?_
  grind
theorem zero_frac : (0 : RF) = frac 0 1 := rfl
theorem one_frac : (1 : RF) = frac 1 1 := rfl
theorem RF.num_zero {f : RF} : f.num = 0 ↔ f = 0 := by
  obtain ⟨N, D, h, rfl⟩ := f.ex
  rw [frac_num_zero h]
  constructor
  · intro e
    rw [e, zero_frac]
    exact frac_eq h one_ne (by grind)
  · intro e
    have := frac_inj h one_ne (e.trans zero_frac)
    grind
theorem cR_add (a b : Rat) : cR (a + b) = cR a + cR b := by
  unfold cR
  rw [add_frac one_ne one_ne, cst_add]
  exact frac_eq one_ne (mul_ne one_ne one_ne) (by grind)
theorem cR_neg (a : Rat) : cR (-a) = -cR a := by
  unfold cR
  rw [neg_frac one_ne, cst_neg]
theorem cR_mul (a b : Rat) : cR (a * b) = cR a * cR b := by
  unfold cR
  rw [mul_frac one_ne one_ne, cst_mul]
  exact frac_eq one_ne (mul_ne one_ne one_ne) (by grind)
namespace RF
theorem add_comm (f g : RF) : f + g = g + f := by
  obtain ⟨N, D, h, rfl⟩ := f.ex
  obtain ⟨M, E, k, rfl⟩ := g.ex
  rw [add_frac h k, add_frac k h]
  exact frac_eq (mul_ne h k) (mul_ne k h) (by grind)
theorem add_assoc (f g l : RF) : f + g + l = f + (g + l) := by
  obtain ⟨N, D, h, rfl⟩ := f.ex
  obtain ⟨M, E, k, rfl⟩ := g.ex
  obtain ⟨O, F, j, rfl⟩ := l.ex
  rw [add_frac h k, add_frac (mul_ne h k) j, add_frac k j, add_frac h (mul_ne k j)]
  exact frac_eq (mul_ne (mul_ne h k) j) (mul_ne h (mul_ne k j)) (by grind)
theorem add_zero (f : RF) : f + 0 = f := by
  obtain ⟨N, D, h, rfl⟩ := f.ex
  rw [zero_frac, add_frac h one_ne]
  exact frac_eq (mul_ne h one_ne) h (by grind)
theorem neg_add_cancel (f : RF) : -f + f = 0 := by
  obtain ⟨N, D, h, rfl⟩ := f.ex
  rw [zero_frac, neg_frac h, add_frac h h]
  exact frac_eq (mul_ne h h) one_ne (by grind)
theorem sub_eq_add_neg (f g : RF) : f - g = f + -g := by
  obtain ⟨N, D, h, rfl⟩ := f.ex
  obtain ⟨M, E, k, rfl⟩ := g.ex
  rw [sub_frac h k, neg_frac k, add_frac h k]
  exact frac_eq (mul_ne h k) (mul_ne h k) (by grind)
theorem mul_comm (f g : RF) : f * g = g * f := by
  obtain ⟨N, D, h, rfl⟩ := f.ex
  obtain ⟨M, E, k, rfl⟩ := g.ex
  rw [mul_frac h k, mul_frac k h]
  exact frac_eq (mul_ne h k) (mul_ne k h) (by grind)
theorem mul_assoc (f g l : RF) : f * g * l = f * (g * l) := by
  obtain ⟨N, D, h, rfl⟩ := f.ex
  obtain ⟨M, E, k, rfl⟩ := g.ex
  obtain ⟨O, F, j, rfl⟩ := l.ex
  rw [mul_frac h k, mul_frac (mul_ne h k) j, mul_frac k j, mul_frac h (mul_ne k j)]
  exact frac_eq (mul_ne (mul_ne h k) j) (mul_ne h (mul_ne k j)) (by grind)
theorem one_mul (f : RF) : 1 * f = f := by
  obtain ⟨N, D, h, rfl⟩ := f.ex
  rw [one_frac, mul_frac one_ne h]
  exact frac_eq (mul_ne one_ne h) h (by grind)
theorem zero_mul (f : RF) : 0 * f = 0 := by
  obtain ⟨N, D, h, rfl⟩ := f.ex
  rw [zero_frac, mul_frac one_ne h]
  exact frac_eq (mul_ne one_ne h) one_ne (by grind)
theorem mul_add (f g l : RF) : f * (g + l) = f * g + f * l := by
  obtain ⟨N, D, h, rfl⟩ := f.ex
  obtain ⟨M, E, k, rfl⟩ := g.ex
  obtain ⟨O, F, j, rfl⟩ := l.ex
  rw [add_frac k j, mul_frac h (mul_ne k j), mul_frac h k, mul_frac h j, add_frac (mul_ne h k) (mul_ne h j)]
  exact frac_eq (mul_ne h (mul_ne k j)) (mul_ne (mul_ne h k) (mul_ne h j)) (by grind)
theorem one_ne_zero : (0 : RF) ≠ 1 := fun e => by
  have := frac_inj one_ne one_ne (zero_frac.symm.trans (e.trans one_frac))
  exact one_ne (by grind)
theorem mul_inv_cancel {f : RF} (hf : f ≠ 0) : f * f⁻¹ = 1 := by
  have hn : f.num ≠ 0 := fun e => hf (num_zero.mp e)
  have : f⁻¹ = frac f.den f.num := if_neg hn
  rw [this]
  have e := frac_self f
  rw [← e, frac_self, ← frac_self f, one_frac, mul_frac f.den_ne (by rw [frac_self]; exact hn)]
  rw [frac_self]
  exact frac_eq (mul_ne f.den_ne hn) one_ne (by grind)
theorem inv_zero : (0 : RF)⁻¹ = 0 := if_pos (num_zero.mpr rfl)
noncomputable def npow (f : RF) : Nat → RF
  | 0 => 1
  | n + 1 => npow f n * f
noncomputable def zpow (f : RF) : Int → RF
  | .ofNat n => npow f n
  | .negSucc n => (npow f (n + 1))⁻¹
end RF
noncomputable instance : SMul Nat RF := ⟨fun n p => cR n * p⟩
noncomputable instance : SMul Int RF := ⟨fun n p => cR n * p⟩
noncomputable instance : HPow RF Nat RF := ⟨RF.npow⟩
noncomputable instance : HPow RF Int RF := ⟨RF.zpow⟩
noncomputable instance : Lean.Grind.CommRing RF where
  nsmul := inferInstance
  zsmul := inferInstance
  npow := inferInstance
  ofNat := inferInstance
  natCast := inferInstance
  intCast := inferInstance
  add_zero := RF.add_zero
  add_comm := RF.add_comm
  add_assoc := RF.add_assoc
  mul_assoc := RF.mul_assoc
  mul_comm := RF.mul_comm
  mul_one p := by rw [RF.mul_comm, RF.one_mul]
  one_mul := RF.one_mul
  left_distrib := RF.mul_add
  right_distrib p q r := by rw [RF.mul_comm, RF.mul_add, RF.mul_comm r p, RF.mul_comm r q]
  zero_mul := RF.zero_mul
  mul_zero p := by rw [RF.mul_comm, RF.zero_mul]
  pow_zero _ := rfl
  pow_succ _ _ := rfl
  ofNat_succ n := by
    show cR ((n + 1 : Nat) : Rat) = cR n + cR 1
    rw [← cR_add]
    congr 1
    grind
  ofNat_eq_natCast _ := rfl
  nsmul_eq_natCast_mul _ _ := rfl
  neg_add_cancel := RF.neg_add_cancel
  sub_eq_add_neg := RF.sub_eq_add_neg
  neg_zsmul i p := by
    show cR ((-i : Int) : Rat) * p = -(cR i * p)
    have : ((-i : Int) : Rat) = -(i : Rat) := by simp
    rw [this, cR_neg]
    have h : -cR i * p + cR i * p = 0 := by
      rw [RF.mul_comm, RF.mul_comm (cR i), ← RF.mul_add, RF.neg_add_cancel, RF.mul_comm, RF.zero_mul]
    calc -cR i * p = -cR i * p + 0 := (RF.add_zero _).symm
      _ = -cR i * p + (-(cR i * p) + cR i * p) := by rw [RF.neg_add_cancel]
      _ = -cR i * p + (cR i * p + -(cR i * p)) := by rw [RF.add_comm (-(cR i * p))]
      _ = -cR i * p + cR i * p + -(cR i * p) := by rw [RF.add_assoc]
      _ = 0 + -(cR i * p) := by rw [h]
      _ = -(cR i * p) := by rw [RF.add_comm, RF.add_zero]
  zsmul_natCast_eq_nsmul n p := rfl
  intCast_ofNat n := rfl
  intCast_neg i := by
    show cR ((-i : Int) : Rat) = -cR i
    rw [← cR_neg]
    simp
theorem RF.inv_inv (f : RF) : f⁻¹⁻¹ = f := by
  by_cases h : f = 0
  · rw [h, RF.inv_zero, RF.inv_zero]
  · have h1 := RF.mul_inv_cancel h
    have h2 : f⁻¹ ≠ 0 := fun e => by
      rw [e] at h1
      have := RF.one_ne_zero
      grind
    have h3 := RF.mul_inv_cancel h2
    grind
theorem RF.one_inv : (1 : RF)⁻¹ = 1 := by
  have h := RF.mul_inv_cancel (f := 1) (fun e => RF.one_ne_zero e.symm)
  grind
noncomputable instance : Lean.Grind.Field RF where
  zpow := inferInstance
  div_eq_mul_inv _ _ := rfl
  zero_ne_one := RF.one_ne_zero
  inv_zero := RF.inv_zero
  mul_inv_cancel := RF.mul_inv_cancel
  zpow_zero _ := rfl
  zpow_succ _ _ := rfl
  zpow_neg f n := by
    show RF.zpow f (-n) = (RF.zpow f n)⁻¹
    match n with
    | .ofNat 0 => exact RF.one_inv.symm
    | .ofNat (n + 1) => rfl
    | .negSucc n => exact (RF.inv_inv _).symm
example (f g : RF) (h : f ≠ 0) : g / f * f + 1 = g + 1 := by grind

/-! ### the derivation -/
noncomputable def RF.d (f : RF) : RF := frac (f.num.D * f.den - f.num * f.den.D) (f.den * f.den)
theorem d_frac {N D : Pol} (h : D ≠ 0) : (frac N D).d = frac (N.D * D - N * D.D) (D * D) := by
  have s := frac_spec (N := N) h
  have s' := congrArg Pol.D s
  rw [D_mul, D_mul] at s'
  refine frac_eq (mul_ne (RF.den_ne _) (RF.den_ne _)) (mul_ne h h) ?_
  generalize (frac N D).num = n at *
  generalize (frac N D).den = d at *
  generalize n.D = n' at *
  generalize d.D = d' at *
  generalize N.D = N' at *
  generalize D.D = D' at *
  grind
theorem d_add (f g : RF) : (f + g).d = f.d + g.d := by
  obtain ⟨N, D, h, rfl⟩ := f.ex
  obtain ⟨M, E, k, rfl⟩ := g.ex
  rw [add_frac h k, d_frac h, d_frac k, d_frac (mul_ne h k), add_frac (mul_ne h h) (mul_ne k k)]
  rw [D_add, D_mul, D_mul, D_mul]
  exact frac_eq (mul_ne (mul_ne h k) (mul_ne h k)) (mul_ne (mul_ne h h) (mul_ne k k)) (by grind)
theorem d_mul (f g : RF) : (f * g).d = f.d * g + f * g.d := by
  obtain ⟨N, D, h, rfl⟩ := f.ex
  obtain ⟨M, E, k, rfl⟩ := g.ex
  rw [mul_frac h k, d_frac h, d_frac k, d_frac (mul_ne h k), mul_frac (mul_ne h h) k, mul_frac h (mul_ne k k), add_frac (mul_ne (mul_ne h h) k) (mul_ne h (mul_ne k k))]
  rw [D_mul, D_mul]
  exact frac_eq (mul_ne (mul_ne h k) (mul_ne h k)) (mul_ne (mul_ne (mul_ne h h) k) (mul_ne h (mul_ne k k))) (by grind)
theorem d_cR (a : Rat) : (cR a).d = 0 := by
  unfold cR
  rw [d_frac one_ne, D_cst, zero_frac]
  have : (1 : Pol).D = 0 := D_cst 1
  rw [this]
  exact frac_eq (mul_ne one_ne one_ne) one_ne (by grind)
theorem d_zero : (0 : RF).d = 0 := d_cR 0
theorem d_one : (1 : RF).d = 0 := d_cR 1
theorem d_neg (f : RF) : (-f).d = -f.d := by
  have h := d_add f (-f)
  have e : f + -f = 0 := by grind
  rw [e, d_zero] at h
  grind
theorem d_sub (f g : RF) : (f - g).d = f.d - g.d := by
  have e : f - g = f + -g := by grind
  rw [e, d_add, d_neg]
  grind
theorem d_inv {f : RF} (h : f ≠ 0) : (f⁻¹).d = -f.d / (f * f) := by
  have e := RF.mul_inv_cancel h
  have k := congrArg RF.d e
  rw [d_mul, d_one] at k
  grind
end K31
set_option Elab.async false
set_option linter.all false
set_option maxHeartbeats 1000000
/-! M4: integer sequences, their norm, Siegel's lemma by pigeonholes. -/
namespace K31
abbrev ZS := Nat → Int
def zt (f : ZS) : ZS := fun i => f (i + 1)
def zmul : ZS → ZS → ZS
  | f, g, 0 => f 0 * g 0
  | f, g, n + 1 => f 0 * g (n + 1) + zmul (zt f) g n
theorem zmul_zero' (f g : ZS) : zmul f g 0 = f 0 * g 0 := by rw [zmul]
theorem zmul_succ (f g : ZS) (n : Nat) : zmul f g (n + 1) = f 0 * g (n + 1) + zmul (zt f) g n := by rw [zmul]
theorem zmul_cast (f g : ZS) (n : Nat) : ((zmul f g n : Int) : Rat) = pmul (fun i => (f i : Rat)) (fun i => (g i : Rat)) n := by
  induction n generalizing f with
  | zero => rw [zmul_zero', pmul_zero', Rat.intCast_mul]
  | succ n ih =>
    rw [zmul_succ, pmul_succ, Rat.intCast_add, Rat.intCast_mul, ih]
    rfl
theorem zmul_sub (f g h : ZS) (n : Nat) : zmul (fun i => f i - g i) h n = zmul f h n - zmul g h n := by
  induction n generalizing f g with
  | zero => simp only [zmul_zero']; grind
  | succ n ih =>
    simp only [zmul_succ]
    have := ih (zt f) (zt g)
    have e : zt (fun i => f i - g i) = fun i => zt f i - zt g i := rfl
    rw [e, this]
    grind
/-- sum of the first absolute values -/
def sn : Nat → ZS → Nat
  | 0, _ => 0
  | n + 1, f => (f 0).natAbs + sn n (zt f)
theorem sn_succ (n : Nat) (f : ZS) : sn (n + 1) f = (f 0).natAbs + sn n (zt f) := rfl
theorem sn_back (n : Nat) (f : ZS) : sn (n + 1) f = sn n f + (f n).natAbs := by
  induction n generalizing f with
  | zero => simp [sn]
  | succ n ih =>
    rw [sn_succ, ih (zt f), sn_succ n]
    simp only [zt]
    omega
theorem sn_mono (f : ZS) {m n : Nat} (h : m ≤ n) : sn m f ≤ sn n f := by
  induction n with
  | zero => have : m = 0 := by omega
            subst this; exact Nat.le_refl _
  | succ n ih =>
    rcases Nat.lt_or_ge m (n + 1) with h1 | h1
    · rw [sn_back]
      have := ih (by omega)
      omega
    · have : m = n + 1 := by omega
      subst this; exact Nat.le_refl _
theorem sn_at (f : ZS) (i : Nat) : (f i).natAbs ≤ sn (i + 1) f := by
  rw [sn_back]; omega
theorem sn_add (f g : ZS) (n : Nat) : sn n (fun i => f i + g i) ≤ sn n f + sn n g := by
  induction n generalizing f g with
  | zero => simp [sn]
  | succ n ih =>
    have := ih (zt f) (zt g)
    have e : zt (fun i => f i + g i) = fun i => zt f i + zt g i := rfl
    rw [sn_succ, sn_succ, sn_succ, e]
    have := Int.natAbs_add_le (f 0) (g 0)
    omega
theorem sn_sub (f g : ZS) (n : Nat) : sn n (fun i => f i - g i) ≤ sn n f + sn n g := by
  induction n generalizing f g with
  | zero => simp [sn]
  | succ n ih =>
    have := ih (zt f) (zt g)
    have e : zt (fun i => f i - g i) = fun i => zt f i - zt g i := rfl
    rw [sn_succ, sn_succ, sn_succ, e]
    have : (f 0 - g 0).natAbs ≤ (f 0).natAbs + (g 0).natAbs := by omega
    omega
theorem sn_neg (f : ZS) (n : Nat) : sn n (fun i => -f i) = sn n f := by
  induction n generalizing f with
  | zero => rfl
  | succ n ih =>
    have := ih (zt f)
    have e : zt (fun i => -f i) = fun i => -zt f i := rfl
    rw [sn_succ, sn_succ, e, this, Int.natAbs_neg]
theorem sn_smul (a : Int) (f : ZS) (n : Nat) : sn n (fun i => a * f i) = a.natAbs * sn n f := by
  induction n generalizing f with
  | zero => rfl
  | succ n ih =>
    have := ih (zt f)
    have e : zt (fun i => a * f i) = fun i => a * zt f i := rfl
    rw [sn_succ, sn_succ, e, this, Int.natAbs_mul, Nat.mul_add]
theorem sn_mul (f g : ZS) (n : Nat) : sn n (zmul f g) ≤ sn n f * sn n g := by
  induction n generalizing f with
  | zero => simp [sn]
  | succ n ih =>
    have h := ih (zt f)
    have e : zt (zmul f g) = fun i => f 0 * zt g i + zmul (zt f) g i := funext fun i => zmul_succ f g i
    rw [sn_succ n (zmul f g), e, zmul_zero', Int.natAbs_mul]
    have h1 := sn_add (fun i => f 0 * zt g i) (zmul (zt f) g) n
    rw [sn_smul] at h1
    have h2 : sn n (zt f) * sn n g ≤ sn n (zt f) * sn (n + 1) g := Nat.mul_le_mul_left _ (sn_mono g (by omega))
    have h3 : sn (n + 1) g = (g 0).natAbs + sn n (zt g) := sn_succ n g
    rw [sn_succ n f, Nat.add_mul]
    have h4 : (f 0).natAbs * sn (n + 1) g = (f 0).natAbs * (g 0).natAbs + (f 0).natAbs * sn n (zt g) := by rw [h3, Nat.mul_add]
    omega
theorem zmul_bound {f g : ZS} {X n : Nat} (h : ∀ i, (f i).natAbs ≤ X) : (zmul f g n).natAbs ≤ X * sn (n + 1) g := by
  induction n generalizing f with
  | zero =>
    rw [zmul_zero', Int.natAbs_mul]
    have : sn 1 g = (g 0).natAbs := by simp [sn]
    rw [this]
    exact Nat.mul_le_mul_right _ (h 0)
  | succ n ih =>
    rw [zmul_succ]
    have h1 := ih (f := zt f) fun i => h (i + 1)
    have h2 := Int.natAbs_add_le (f 0 * g (n + 1)) (zmul (zt f) g n)
    rw [Int.natAbs_mul] at h2
    have h3 := Nat.mul_le_mul_right (g (n + 1)).natAbs (h 0)
    rw [sn_back (n + 1), Nat.mul_add]
    omega

/-! ### pigeonholes -/
theorem pigeon (m : Nat) : ∀ (n : Nat) (f : Nat → Nat), (∀ i, i < n → f i < m) → m < n → ∃ i j, i < j ∧ j < n ∧ f i = f j := by
  induction m with
  | zero =>
    intro n f h hn
    exact absurd (h 0 (by omega)) (by omega)
  | succ m ih =>
    intro n f h hn
    by_cases he : ∃ i, i < n - 1 ∧ f i = f (n - 1)
    · obtain ⟨i, hi, e⟩ := he
      exact ⟨i, n - 1, hi, by omega, e⟩
    · have hne : ∀ i, i < n - 1 → f i ≠ f (n - 1) := fun i hi e => he ⟨i, hi, e⟩
      obtain ⟨i, j, hij, hj, e⟩ := ih (n - 1) (fun i => if f i < f (n - 1) then f i else f i - 1) (fun i hi => by
        have a := h i (by omega)
        have b := h (n - 1) (by omega)
        have c := hne i hi
        show (if f i < f (n - 1) then f i else f i - 1) < m
        split <;> omega) (by omega)
      refine ⟨i, j, hij, by omega, ?_⟩
      have a := hne i (by omega)
      have b := hne j hj
      have e' : (if f i < f (n - 1) then f i else f i - 1) = (if f j < f (n - 1) then f j else f j - 1) := e
      split at e' <;> split at e' <;> omega
def dig (B : Nat) : Nat → Nat → Nat
  | t, 0 => t % B
  | t, i + 1 => dig B (t / B) i
theorem dig_lt {B : Nat} (hB : 0 < B) : ∀ (i t : Nat), dig B t i < B
  | 0, t => Nat.mod_lt _ hB
  | i + 1, t => dig_lt hB i (t / B)
theorem dig_inj {B : Nat} (hB : 0 < B) : ∀ (N t u : Nat), t < B ^ N → u < B ^ N → (∀ i, i < N → dig B t i = dig B u i) → t = u
  | 0, t, u, ht, hu, _ => by simp at ht hu; omega
  | N + 1, t, u, ht, hu, h => by
    have h0 : t % B = u % B := h 0 (by omega)
    have h1 : t / B = u / B := dig_inj hB N (t / B) (u / B) (by rw [Nat.div_lt_iff_lt_mul hB]; rw [Nat.pow_succ] at ht; exact ht) (by rw [Nat.div_lt_iff_lt_mul hB]; rw [Nat.pow_succ] at hu; exact hu) fun i hi => h (i + 1) (by omega)
    rw [← Nat.div_add_mod t B, ← Nat.div_add_mod u B, h0, h1]
def enc (B : Nat) : Nat → (Nat → Nat) → Nat
  | 0, _ => 0
  | N + 1, v => v 0 + B * enc B N (fun i => v (i + 1))
theorem enc_lt {B : Nat} (hB : 0 < B) : ∀ (N : Nat) (v : Nat → Nat), (∀ i, i < N → v i < B) → enc B N v < B ^ N
  | 0, v, _ => by simp [enc]
  | N + 1, v, h => by
    have h1 := enc_lt hB N (fun i => v (i + 1)) fun i hi => h (i + 1) (by omega)
    have h0 := h 0 (by omega)
    show v 0 + B * enc B N (fun i => v (i + 1)) < B ^ (N + 1)
    have h2 : B * (enc B N (fun i => v (i + 1)) + 1) ≤ B * B ^ N := Nat.mul_le_mul_left B h1
    rw [Nat.pow_succ, Nat.mul_comm (B ^ N)]
    rw [Nat.mul_add] at h2
    omega
theorem enc_inj {B : Nat} (hB : 0 < B) : ∀ (N : Nat) (v w : Nat → Nat), (∀ i, i < N → v i < B) → (∀ i, i < N → w i < B) → enc B N v = enc B N w → ∀ i, i < N → v i = w i
  | 0, v, w, _, _, _, i, hi => absurd hi (by omega)
  | N + 1, v, w, hv, hw, e, i, hi => by
    have e' : v 0 + B * enc B N (fun i => v (i + 1)) = w 0 + B * enc B N (fun i => w (i + 1)) := e
    have a := hv 0 (by omega)
    have b := hw 0 (by omega)
    have e0 : v 0 = w 0 := by
      have h1 := congrArg (· % B) e'
      simp only [Nat.add_mul_mod_self_left] at h1
      rw [Nat.mod_eq_of_lt a, Nat.mod_eq_of_lt b] at h1
      exact h1
    have e1 : enc B N (fun i => v (i + 1)) = enc B N (fun i => w (i + 1)) := by
      rw [e0] at e'
      exact Nat.eq_of_mul_eq_mul_left hB (Nat.add_left_cancel e')
    cases i with
    | zero => exact e0
    | succ i => exact enc_inj hB N _ _ (fun i hi => hv (i + 1) (by omega)) (fun i hi => hw (i + 1) (by omega)) e1 i (by omega)
theorem siegel {N M W X : Nat} {L : ZS → Nat → Int} (hl : ∀ x y k, L (fun i => x i - y i) k = L x k - L y k) (hb : ∀ x : ZS, (∀ i, (x i).natAbs ≤ X) → ∀ k, (L x k).natAbs ≤ X * W)
    (hW : 0 < W) (hNM : M < N) (hX : (2 * W) ^ M ≤ X) : ∃ x : ZS, (∃ i, i < N ∧ x i ≠ 0) ∧ (∀ i, N ≤ i → x i = 0) ∧ (∀ i, (x i).natAbs ≤ X) ∧ ∀ k, k < M → L x k = 0 := by
  have vec : ∀ t : Nat, ∃ x : ZS, x = (fun i => if i < N then ((dig (X + 1) t i : Nat) : Int) else 0) := fun t => ⟨_, rfl⟩
  let x : Nat → ZS := fun t i => if i < N then ((dig (X + 1) t i : Nat) : Int) else 0
  have hx : ∀ t i, 0 ≤ x t i ∧ x t i ≤ X := fun t i => by
    show 0 ≤ (if i < N then ((dig (X + 1) t i : Nat) : Int) else 0) ∧ (if i < N then ((dig (X + 1) t i : Nat) : Int) else 0) ≤ X
    have := dig_lt (B := X + 1) (by omega) i t
    split <;> omega
  have hLb : ∀ t k, (L (x t) k).natAbs ≤ X * W := fun t k => hb (x t) (fun i => by have := hx t i; omega) k
  let B := 2 * (X * W) + 1
  let code : Nat → Nat := fun t => enc B M fun k => (L (x t) k + (X * W : Nat)).toNat
  have hc : ∀ t k, (L (x t) k + (X * W : Nat)).toNat < B := fun t k => by
    have := hLb t k
    show _ < 2 * (X * W) + 1
    omega
  have hcode : ∀ t, t < (X + 1) ^ N → code t < B ^ M := fun t _ => enc_lt (by show 0 < 2 * (X * W) + 1; omega) M _ fun k _ => hc t k
  have hcount : B ^ M < (X + 1) ^ N := by
    have h1 : B ≤ 2 * W * (X + 1) := by
      show 2 * (X * W) + 1 ≤ _
      have : 2 * W * (X + 1) = 2 * (X * W) + 2 * W := by grind
      omega
    have h2 : B ^ M ≤ (2 * W * (X + 1)) ^ M := Nat.pow_le_pow_left h1 M
    rw [Nat.mul_pow] at h2
    have h3 : (2 * W) ^ M * (X + 1) ^ M ≤ X * (X + 1) ^ M := Nat.mul_le_mul_right _ hX
    have h4 : X * (X + 1) ^ M < (X + 1) ^ (M + 1) := by
      rw [Nat.pow_succ, Nat.mul_comm]
      have : 0 < (X + 1) ^ M := Nat.pow_pos (by omega)
      exact Nat.mul_lt_mul_of_pos_left (by omega) this
    have h5 : (X + 1) ^ (M + 1) ≤ (X + 1) ^ N := Nat.pow_le_pow_right (by omega) hNM
    omega
  obtain ⟨t, u, htu, hu, e⟩ := pigeon _ _ code hcode hcount
  have ek := enc_inj (by show 0 < 2 * (X * W) + 1; omega) M _ _ (fun k _ => hc t k) (fun k _ => hc u k) e
  refine ⟨fun i => x t i - x u i, ?_, fun i hi => ?_, fun i => ?_, fun k hk => ?_⟩
  · by_cases hne : ∃ i, i < N ∧ x t i - x u i ≠ 0
    · exact hne
    · exfalso
      have : t = u := dig_inj (B := X + 1) (by omega) N t u (by omega) hu fun i hi => by
        have h1 : x t i - x u i = 0 := by
          rcases Int.lt_or_le 0 (x t i - x u i) with z | z
          · exact absurd ⟨i, hi, by omega⟩ hne
          · rcases Int.lt_or_le (x t i - x u i) 0 with z' | z'
            · exact absurd ⟨i, hi, by omega⟩ hne
            · omega
        have h2 : (if i < N then ((dig (X + 1) t i : Nat) : Int) else 0) - (if i < N then ((dig (X + 1) u i : Nat) : Int) else 0) = 0 := h1
        rw [if_pos hi, if_pos hi] at h2
        omega
      omega
  · show (if i < N then ((dig (X + 1) t i : Nat) : Int) else 0) - (if i < N then ((dig (X + 1) u i : Nat) : Int) else 0) = 0
    rw [if_neg (by omega), if_neg (by omega)]; rfl
  · have a := hx t i
    have b := hx u i
    show (x t i - x u i).natAbs ≤ X
    omega
  · rw [hl]
    have h1 := ek k hk
    have h2 := hLb t k
    have h3 := hLb u k
    omega
/-- a small combination whose coefficients from j on vanish (those that a pair of such lengths does not kill by itself) -/
theorem small_comb {a b : ZS} {p q j Wa Wb : Nat} (hpq : 0 < p + q) (ha : ∀ k, sn k a ≤ Wa) (hb : ∀ k, sn k b ≤ Wb) (hW : 0 < Wa + Wb) :
    ∃ u v : ZS, ((∃ i, i < p ∧ u i ≠ 0) ∨ ∃ i, i < q ∧ v i ≠ 0) ∧ (∀ i, p ≤ i → u i = 0) ∧ (∀ i, q ≤ i → v i = 0) ∧ (∀ i, (u i).natAbs ≤ (2 * (Wa + Wb)) ^ (p + q - 1)) ∧ (∀ i, (v i).natAbs ≤ (2 * (Wa + Wb)) ^ (p + q - 1)) ∧
      ∀ k, j ≤ k → k < j + (p + q - 1) → zmul u a k + zmul v b k = 0 := by
  obtain ⟨x, hne, h0, hX, hk⟩ := siegel (N := p + q) (M := p + q - 1) (W := Wa + Wb) (X := (2 * (Wa + Wb)) ^ (p + q - 1))
    (L := fun x k => zmul (fun i => if i < p then x i else 0) a (j + k) + zmul (fun i => x (p + i)) b (j + k))
    (fun x y k => by
      have e : (fun i => if i < p then x i - y i else 0) = fun i => (if i < p then x i else 0) - (if i < p then y i else 0) := by
        funext i; split <;> rfl
      show zmul (fun i => if i < p then x i - y i else 0) a (j + k) + zmul (fun i => x (p + i) - y (p + i)) b (j + k) = _
      rw [e, zmul_sub, zmul_sub]
      omega)
    (fun x hx k => by
      have h1 := zmul_bound (f := fun i => if i < p then x i else 0) (g := a) (n := j + k) (X := (2 * (Wa + Wb)) ^ (p + q - 1)) fun i => by
        show (if i < p then x i else 0).natAbs ≤ _
        split
        · exact hx i
        · simp
      have h2 := zmul_bound (f := fun i => x (p + i)) (g := b) (n := j + k) (X := (2 * (Wa + Wb)) ^ (p + q - 1)) fun i => hx (p + i)
      have h3 := Nat.mul_le_mul_left ((2 * (Wa + Wb)) ^ (p + q - 1)) (ha (j + k + 1))
      have h4 := Nat.mul_le_mul_left ((2 * (Wa + Wb)) ^ (p + q - 1)) (hb (j + k + 1))
      show (zmul (fun i => if i < p then x i else 0) a (j + k) + zmul (fun i => x (p + i)) b (j + k)).natAbs ≤ _
      rw [Nat.mul_add]
      omega)
    hW (by omega) (Nat.le_refl _)
  refine ⟨fun i => if i < p then x i else 0, fun i => x (p + i), ?_, fun i hi => if_neg (by omega), fun i hi => h0 _ (by omega), fun i => ?_, fun i => hX _, fun k h1 h2 => ?_⟩
  · obtain ⟨i, hi, hxi⟩ := hne
    rcases Nat.lt_or_ge i p with h | h
    · exact .inl ⟨i, h, by show (if i < p then x i else 0) ≠ 0; rw [if_pos h]; exact hxi⟩
    · exact .inr ⟨i - p, by omega, by show x (p + (i - p)) ≠ 0; rw [show p + (i - p) = i by omega]; exact hxi⟩
  · show (if i < p then x i else 0).natAbs ≤ _
    split
    · exact hX i
    · simp
  · have := hk (k - j) (by omega)
    rw [show j + (k - j) = k by omega] at this
    exact this
end K31
set_option Elab.async false
set_option linter.all false
set_option maxHeartbeats 1000000
/-! M5: costs of rational functions; the size of the lowest terms. -/
namespace K31
/-! ### integer polynomials -/
/-- z is the sequence of p's coefficients -/
def IsZ (p : Pol) (z : ZS) : Prop := ∀ i, p.c i = (z i : Rat)
theorem IsZ.fn {p : Pol} {z : ZS} (h : IsZ p z) : p.c = fun i => (z i : Rat) := funext h
theorem IsZ.mul {p q : Pol} {a b : ZS} (h : IsZ p a) (k : IsZ q b) : IsZ (p * q) (zmul a b) := fun i => by
  rw [mul_c, h.fn, k.fn, zmul_cast]
theorem IsZ.add {p q : Pol} {a b : ZS} (h : IsZ p a) (k : IsZ q b) : IsZ (p + q) (fun i => a i + b i) := fun i => by
  rw [add_c, h, k, Rat.intCast_add]
theorem IsZ.sub {p q : Pol} {a b : ZS} (h : IsZ p a) (k : IsZ q b) : IsZ (p - q) (fun i => a i - b i) := fun i => by
  rw [sub_c, h, k, Rat.intCast_sub]
theorem IsZ.neg {p : Pol} {a : ZS} (h : IsZ p a) : IsZ (-p) (fun i => -a i) := fun i => by
  rw [neg_c, h, Rat.intCast_neg]
theorem IsZ.D {p : Pol} {a : ZS} (h : IsZ p a) : IsZ p.D (fun i => ((i + 1 : Nat) : Int) * a (i + 1)) := fun i => by
  rw [D_c, h, Rat.intCast_mul, Rat.intCast_natCast]
theorem IsZ.ofFn (n : Nat) (z : ZS) (h : ∀ i, n ≤ i → z i = 0) : IsZ (ofFn n fun i => (z i : Rat)) z := fun i => by
  rw [ofFn_c]
  split
  · rfl
  · rw [h i (by omega)]; rfl
theorem ofFn_len (n : Nat) (f : PS) : (ofFn n f).len ≤ n := Pol.len_le fun i hi => by
  rw [ofFn_c, if_neg (by omega)]
theorem IsZ.zero {p : Pol} {z : ZS} (h : IsZ p z) {i : Nat} (hi : p.c i = 0) : z i = 0 := by
  rw [h] at hi
  exact Rat.intCast_eq_zero_iff.mp hi
/-- p has integer coefficients, at most n of them, of norm at most W -/
def BP (p : Pol) (n W : Nat) : Prop := ∃ z, IsZ p z ∧ p.len ≤ n ∧ ∀ k, sn k z ≤ W
theorem BP.mono {p : Pol} {n n' W W' : Nat} (h : BP p n W) (hn : n ≤ n') (hW : W ≤ W') : BP p n' W' := by
  obtain ⟨z, h1, h2, h3⟩ := h
  exact ⟨z, h1, by omega, fun k => Nat.le_trans (h3 k) hW⟩
theorem BP.mul {p q : Pol} {n m W V : Nat} (h : BP p n W) (k : BP q m V) : BP (p * q) (n + m - 1) (W * V) := by
  obtain ⟨a, h1, h2, h3⟩ := h
  obtain ⟨b, k1, k2, k3⟩ := k
  refine ⟨_, h1.mul k1, ?_, fun i => Nat.le_trans (sn_mul a b i) (Nat.mul_le_mul (h3 i) (k3 i))⟩
  have := mul_len_le p q
  omega
theorem BP.add {p q : Pol} {n m W V : Nat} (h : BP p n W) (k : BP q m V) : BP (p + q) (max n m) (W + V) := by
  obtain ⟨a, h1, h2, h3⟩ := h
  obtain ⟨b, k1, k2, k3⟩ := k
  refine ⟨_, h1.add k1, ?_, fun i => Nat.le_trans (sn_add a b i) (Nat.add_le_add (h3 i) (k3 i))⟩
  have := add_len_le p q
  omega
theorem BP.sub {p q : Pol} {n m W V : Nat} (h : BP p n W) (k : BP q m V) : BP (p - q) (max n m) (W + V) := by
  obtain ⟨a, h1, h2, h3⟩ := h
  obtain ⟨b, k1, k2, k3⟩ := k
  refine ⟨_, h1.sub k1, ?_, fun i => Nat.le_trans (sn_sub a b i) (Nat.add_le_add (h3 i) (k3 i))⟩
  have := sub_len_le p q
  omega
theorem BP.neg {p : Pol} {n W : Nat} (h : BP p n W) : BP (-p) n W := by
  obtain ⟨a, h1, h2, h3⟩ := h
  refine ⟨_, h1.neg, ?_, fun i => ?_⟩
  · rw [neg_len]; exact h2
  · rw [sn_neg]; exact h3 i
theorem sn_D {a : ZS} {n s : Nat} (h : ∀ i, n ≤ i → a i = 0) (k : Nat) : sn k (fun i => ((i + 1 + s : Nat) : Int) * a (i + 1)) ≤ (n + s) * sn k (zt a) := by
  induction k generalizing a n s with
  | zero => simp [sn]
  | succ k ih =>
    have h1 := ih (a := zt a) (n := n - 1) (s := s + 1) fun i hi => h (i + 1) (by omega)
    rw [sn_succ, sn_succ k (zt a)]
    have e : zt (fun i => ((i + 1 + s : Nat) : Int) * a (i + 1)) = fun i => ((i + 1 + (s + 1) : Nat) : Int) * zt a (i + 1) := by
      funext i
      show ((i + 1 + 1 + s : Nat) : Int) * a (i + 1 + 1) = ((i + 1 + (s + 1) : Nat) : Int) * a (i + 1 + 1)
      rw [show i + 1 + 1 + s = i + 1 + (s + 1) by omega]
    rw [e, Nat.mul_add]
    have h3 : (((0 + 1 + s : Nat) : Int) * a (0 + 1)).natAbs ≤ (n + s) * (zt a 0).natAbs := by
      rw [Int.natAbs_mul]
      rcases Nat.lt_or_ge 1 n with hn | hn
      · refine Nat.mul_le_mul ?_ (Nat.le_refl _)
        omega
      · rcases Nat.eq_zero_or_pos (zt a 0).natAbs with z | z
        · have z2 : (a (0 + 1)).natAbs = 0 := z
          rw [z2]; simp
        · have := h 1 hn
          have z2 : zt a 0 = a 1 := rfl
          rw [z2, this] at z
          simp at z
    have h4 : (n - 1 + (s + 1)) * sn k (zt (zt a)) ≤ (n + s) * sn k (zt (zt a)) ∨ sn k (zt (zt a)) = 0 := by
      rcases Nat.eq_zero_or_pos n with hn | hn
      · refine .inr ?_
        have : ∀ (k : Nat) (b : ZS), (∀ i, b i = 0) → sn k b = 0 := by
          intro k
          induction k with
          | zero => intro b _; rfl
          | succ k ih2 =>
            intro b hb
            rw [sn_succ, hb 0, ih2 (zt b) fun i => hb (i + 1)]; rfl
        exact this k _ fun i => h (i + 2) (by omega)
      · exact .inl (Nat.mul_le_mul_right _ (by omega))
    rcases h4 with h4 | h4
    · omega
    · rw [h4] at h1 ⊢
      omega
theorem BP.D {p : Pol} {n W : Nat} (h : BP p n W) : BP p.D (n - 1) (n * W) := by
  obtain ⟨a, h1, h2, h3⟩ := h
  refine ⟨_, h1.D, ?_, fun k => ?_⟩
  · have := D_len_le p
    omega
  · have h4 := sn_D (a := a) (n := n) (s := 0) (fun i hi => h1.zero (Pol.c_ge (by omega))) k
    have h5 : sn k (zt a) ≤ sn (k + 1) a := by rw [sn_succ]; omega
    have h6 := Nat.mul_le_mul_left n (Nat.le_trans h5 (h3 (k + 1)))
    simp only [Nat.add_zero] at h4
    omega
theorem BP.cst (m : Int) : BP (cst m) 1 m.natAbs := by
  refine ⟨fun i => if i = 0 then m else 0, fun i => ?_, cst_len_le _, fun k => ?_⟩
  · rw [cst_c]
    show _ = ((if i = 0 then m else 0 : Int) : Rat)
    split <;> rfl
  · cases k with
    | zero => simp [sn]
    | succ k =>
      rw [sn_succ]
      have : ∀ k, sn k (zt fun i => if i = 0 then m else 0) = 0 := by
        intro k
        have h : ∀ (k : Nat) (b : ZS), (∀ i, b i = 0) → sn k b = 0 := by
          intro k
          induction k with
          | zero => intro b _; rfl
          | succ k ih2 =>
            intro b hb
            rw [sn_succ, hb 0, ih2 (zt b) fun i => hb (i + 1)]; rfl
        exact h k _ fun i => by show (if i + 1 = 0 then m else 0) = 0; rw [if_neg (by omega)]
      rw [this]; simp

/-! ### costs -/
def Cost (c : Nat) (f : RF) : Prop := ∃ N D, D ≠ 0 ∧ f = frac N D ∧ BP N (c + 1) (2 ^ (4 * c)) ∧ BP D (c + 1) (2 ^ (4 * c))
theorem Cost.mono {a b : Nat} {f : RF} (h : Cost a f) (hab : a ≤ b) : Cost b f := by
  obtain ⟨N, D, h0, e, h1, h2⟩ := h
  have k : 2 ^ (4 * a) ≤ 2 ^ (4 * b) := Nat.pow_le_pow_right (by decide) (by omega)
  exact ⟨N, D, h0, e, h1.mono (by omega) k, h2.mono (by omega) k⟩
theorem pow4 (a b : Nat) : 2 ^ (4 * a) * 2 ^ (4 * b) = 2 ^ (4 * (a + b)) := by
  rw [← Nat.pow_add]; congr 1; omega
theorem Cost.add {a b : Nat} {f g : RF} (h : Cost a f) (k : Cost b g) : Cost (a + b + 1) (f + g) := by
  obtain ⟨N, D, h0, rfl, h1, h2⟩ := h
  obtain ⟨M, E, k0, rfl, k1, k2⟩ := k
  rw [add_frac h0 k0]
  have e1 := pow4 a b
  have e2 : 2 ^ (4 * (a + b)) + 2 ^ (4 * (a + b)) ≤ 2 ^ (4 * (a + b + 1)) := by
    have : 2 ^ (4 * (a + b + 1)) = 16 * 2 ^ (4 * (a + b)) := by
      rw [show 4 * (a + b + 1) = 4 * (a + b) + 4 by omega, Nat.pow_add]; omega
    omega
  refine ⟨_, _, mul_ne h0 k0, rfl, ((h1.mul k2).add (k1.mul h2)).mono (by omega) ?_, (h2.mul k2).mono (by omega) ?_⟩
  · rw [e1, Nat.mul_comm (2 ^ (4 * b)), e1]; exact e2
  · rw [e1]; omega
theorem Cost.neg {a : Nat} {f : RF} (h : Cost a f) : Cost a (-f) := by
  obtain ⟨N, D, h0, rfl, h1, h2⟩ := h
  rw [neg_frac h0]
  exact ⟨_, _, h0, rfl, h1.neg, h2⟩
theorem Cost.sub {a b : Nat} {f g : RF} (h : Cost a f) (k : Cost b g) : Cost (a + b + 1) (f - g) := by
  rw [RF.sub_eq_add_neg]
  exact h.add k.neg
theorem Cost.mul {a b : Nat} {f g : RF} (h : Cost a f) (k : Cost b g) : Cost (a + b) (f * g) := by
  obtain ⟨N, D, h0, rfl, h1, h2⟩ := h
  obtain ⟨M, E, k0, rfl, k1, k2⟩ := k
  rw [mul_frac h0 k0]
  have e1 := pow4 a b
  exact ⟨_, _, mul_ne h0 k0, rfl, (h1.mul k1).mono (by omega) (by omega), (h2.mul k2).mono (by omega) (by omega)⟩
theorem Cost.inv {a : Nat} {f : RF} (h : Cost a f) : Cost a f⁻¹ := by
  by_cases hf : f = 0
  · rw [hf, RF.inv_zero, ← hf]; exact h
  · obtain ⟨N, D, h0, rfl, h1, h2⟩ := h
    have hN : N ≠ 0 := fun z => hf (by rw [z, zero_frac]; exact frac_eq h0 one_ne (by grind))
    rw [inv_frac hN h0]
    exact ⟨_, _, hN, rfl, h2, h1⟩
theorem Cost.div {a b : Nat} {f g : RF} (h : Cost a f) (k : Cost b g) : Cost (a + b) (f / g) := h.mul k.inv
theorem Cost.d {a : Nat} {f : RF} (h : Cost a f) (ha : a ≤ 100) : Cost (2 * a + 2) f.d := by
  obtain ⟨N, D, h0, rfl, h1, h2⟩ := h
  rw [d_frac h0]
  have e1 := pow4 a a
  have e2 : 2 ^ (4 * (2 * a + 2)) = 256 * 2 ^ (4 * (a + a)) := by
    rw [show 4 * (2 * a + 2) = 4 * (a + a) + 8 by omega, Nat.pow_add]; omega
  have e3 : (a + 1) * 2 ^ (4 * a) * 2 ^ (4 * a) ≤ 128 * 2 ^ (4 * (a + a)) := by
    rw [Nat.mul_assoc, e1]
    exact Nat.mul_le_mul_right _ (by omega)
  have e4 : 2 ^ (4 * a) * ((a + 1) * 2 ^ (4 * a)) ≤ 128 * 2 ^ (4 * (a + a)) := by
    rw [Nat.mul_comm]; exact e3
  refine ⟨_, _, mul_ne h0 h0, rfl, ((h1.D.mul h2).sub (h1.mul h2.D)).mono (by omega) ?_, (h2.mul h2).mono (by omega) ?_⟩
  · rw [e2]; omega
  · rw [e1, e2]; omega
theorem Cost.cR {m : Int} {c : Nat} (h : m.natAbs ≤ 2 ^ (4 * c)) : Cost c (cR m) :=
  ⟨K31.cst m, 1, one_ne, rfl, (BP.cst m).mono (by omega) h, (BP.cst 1).mono (by omega) (Nat.one_le_two_pow)⟩
theorem Cost.zero : Cost 0 0 := Cost.cR (m := 0) (by decide)
theorem Cost.one : Cost 0 1 := Cost.cR (m := 1) (by decide)

/-! ### the size of the lowest terms -/
/-- a common denominator E and integer numerators, all at most 2 ^ s; at most n coefficients -/
def Sm (s n : Nat) (E : Nat) (p : Pol) : Prop := p.len ≤ n ∧ ∃ z : ZS, (∀ i, p.c i * (E : Rat) = (z i : Rat)) ∧ ∀ i, (z i).natAbs ≤ 2 ^ s
def costBits (c : Nat) : Nat := (4 * c + 2) * (2 * c + 1)
theorem canon_size {c : Nat} {f : RF} (h : Cost c f) : ∃ E : Nat, 0 < E ∧ E ≤ 2 ^ costBits c ∧ Sm (costBits c) (c + 1) E f.num ∧ Sm (costBits c) (c + 1) E f.den := by
  obtain ⟨N, D, h0, e, ⟨zn, hn1, hn2, hn3⟩, ⟨zd, hd1, hd2, hd3⟩⟩ := h
  have hs := frac_spec (N := N) h0
  rw [← e] at hs
  have hden := f.den_ne
  obtain ⟨g, hg⟩ : f.den ∣ D := f.cop.symm.dvd ⟨N, by grind⟩
  have hg0 : g ≠ 0 := fun z => h0 (by rw [hg, z]; grind)
  have hN : N = f.num * g := mul_cancel hden (by grind)
  have hq : 0 < f.den.len := Pol.len_pos hden
  have hlD := mul_len hden hg0
  rw [← hg] at hlD
  have hgl := Pol.len_pos hg0
  have hlDen : f.den.len ≤ c + 1 := by omega
  have hlN : f.num.len ≤ c + 1 := by
    by_cases hz : f.num = 0
    · rw [hz, len_zero]; omega
    · have := mul_len hz hg0
      rw [← hN] at this
      omega
  have hW : 0 < 2 ^ (4 * c) + 2 ^ (4 * c) := by
    have : 0 < 2 ^ (4 * c) := Nat.pow_pos (by decide)
    omega
  obtain ⟨u, v, hne, hu0, hv0, huX, hvX, hk⟩ := small_comb (a := zd) (b := fun i => -zn i) (p := f.num.len) (q := f.den.len) (j := g.len - 1) (by omega) hd3 (fun k => by rw [sn_neg]; exact hn3 k) hW
  have hU := IsZ.ofFn _ u hu0
  have hV := IsZ.ofFn _ v hv0
  have lU := ofFn_len f.num.len fun i => (u i : Rat)
  have lV := ofFn_len f.den.len fun i => (v i : Rat)
  generalize ofFn f.num.len (fun i => (u i : Rat)) = U at *
  generalize ofFn f.den.len (fun i => (v i : Rat)) = V at *
  have eS : U * D + V * (-N) = (U * f.den - V * f.num) * g := by grind
  have hS : (U * D + V * (-N)).len ≤ g.len - 1 := Pol.len_le fun i hi => by
    rcases Nat.lt_or_ge i (g.len - 1 + (f.num.len + f.den.len - 1)) with h | h
    · have z := (hU.mul hd1).add (hV.mul hn1.neg)
      rw [z]
      show ((zmul u zd i + zmul v (fun i => -zn i) i : Int) : Rat) = 0
      rw [hk i hi h]; rfl
    · rw [eS]
      refine Pol.c_ge ?_
      have h1 := mul_len_le (U * f.den - V * f.num) g
      have h2 := sub_len_le (U * f.den) (V * f.num)
      have h3 := mul_len_le U f.den
      have h4 := mul_len_le V f.num
      omega
  have hz : U * f.den - V * f.num = 0 := by
    by_cases z : U * f.den - V * f.num = 0
    · exact z
    · exfalso
      have h1 := mul_len z hg0
      have h2 := Pol.len_pos z
      rw [eS] at hS
      omega
  have hUV : U * f.den = V * f.num := by grind
  have hV0 : V ≠ 0 := fun z => by
    have hU0 : U = 0 := by
      have : U * f.den = 0 := by rw [hUV, z]; grind
      rcases mul_eq_zero' this with w | w
      · exact w
      · exact absurd w hden
    rcases hne with ⟨i, hi, h⟩ | ⟨i, hi, h⟩
    · exact h (hU.zero (by rw [hU0, zero_c]))
    · exact h (hV.zero (by rw [z, zero_c]))
  obtain ⟨k, hk'⟩ : f.den ∣ V := by
    obtain ⟨a, b, hab⟩ := f.cop
    exact ⟨a * U + b * V, by grind⟩
  have hk0 : k ≠ 0 := fun z => hV0 (by rw [hk', z]; grind)
  have hkl : k.len ≤ 1 := by
    have h1 := mul_len hden hk0
    rw [← hk'] at h1
    have := Pol.len_pos hk0
    omega
  have ek := len_one hkl
  have eV : V = cst (k.c 0) * f.den := by rw [hk']; grind
  have eU : U = cst (k.c 0) * f.num := mul_cancel hden (by rw [hUV, eV]; grind)
  have hkc : k.c 0 = (v (f.den.len - 1) : Rat) := by
    rw [← hV, eV, cst_mul_c]
    have : f.den.c (f.den.len - 1) = 1 := f.mon
    rw [this]; grind
  have hkz : k.c 0 ≠ 0 := fun z => hV0 (by rw [eV, z, ← zero_eq]; grind)
  have hbits : (2 * (2 ^ (4 * c) + 2 ^ (4 * c))) ^ (f.num.len + f.den.len - 1) ≤ 2 ^ costBits c := by
    have e1 : 2 * (2 ^ (4 * c) + 2 ^ (4 * c)) = 2 ^ (4 * c + 2) := by rw [Nat.pow_add]; omega
    rw [e1, ← Nat.pow_mul]
    refine Nat.pow_le_pow_right (by decide) ?_
    unfold costBits
    exact Nat.mul_le_mul_left _ (by omega)
  -- E is the absolute value of the constant
  have hsgn : ∃ t : Int, (t = 1 ∨ t = -1) ∧ ((v (f.den.len - 1)).natAbs : Int) = t * v (f.den.len - 1) := by
    rcases Int.le_total 0 (v (f.den.len - 1)) with h | h
    · exact ⟨1, .inl rfl, by omega⟩
    · exact ⟨-1, .inr rfl, by omega⟩
  obtain ⟨t, ht, hE⟩ := hsgn
  have hE' : (((v (f.den.len - 1)).natAbs : Nat) : Rat) = (t : Rat) * k.c 0 := by
    rw [hkc, ← Rat.intCast_mul, ← hE, Rat.intCast_natCast]
  have habs : ∀ x : Int, (t * x).natAbs = x.natAbs := fun x => by
    rcases ht with rfl | rfl
    · simp
    · simp
  refine ⟨(v (f.den.len - 1)).natAbs, ?_, Nat.le_trans (hvX _) hbits, ⟨hlN, fun i => t * u i, fun i => ?_, fun i => ?_⟩, ⟨hlDen, fun i => t * v i, fun i => ?_, fun i => ?_⟩⟩
  · rcases Nat.eq_zero_or_pos (v (f.den.len - 1)).natAbs with z | z
    · exfalso
      have : v (f.den.len - 1) = 0 := by omega
      rw [this] at hkc
      exact hkz hkc
    · exact z
  · rw [hE', Rat.intCast_mul, ← hU i, eU, cst_mul_c]; grind
  · rw [habs]; exact Nat.le_trans (huX i) hbits
  · rw [hE', Rat.intCast_mul, ← hV i, eV, cst_mul_c]; grind
  · rw [habs]; exact Nat.le_trans (hvX i) hbits
end K31
set_option Elab.async false
set_option linter.all false
set_option maxHeartbeats 1000000
/-! M6: the primitive remainder sequence: its relation and the size of its members. -/
namespace K31
theorem rat_num_div (a : Rat) : a = (a.num : Rat) / ((a.den : Nat) : Rat) := by
  have h := Rat.num_divInt_den a
  rw [Rat.divInt_eq_div, Rat.intCast_natCast] at h
  exact h.symm
theorem rat_den_ne (a : Rat) : ((a.den : Nat) : Rat) ≠ 0 := fun h => a.den_nz (by
  have : ((a.den : Nat) : Rat) = ((0 : Nat) : Rat) := h
  exact Rat.natCast_inj.mp this)
theorem rat_mul_den (a : Rat) : a * ((a.den : Nat) : Rat) = (a.num : Rat) := by
  have h1 := rat_num_div a
  have h2 := rat_den_ne a
  generalize ((a.den : Nat) : Rat) = d at *
  generalize (a.num : Rat) = n at *
  grind
def Hid (p : Prop) : Prop := p
/-- F, G stand in the remainder sequence of A, B -/
structure Rel (A B F G : Pol) : Prop where
  ex : ∃ a1 a2 b1 b2 c, A = a1 * F + a2 * G ∧ B = b1 * F + b2 * G ∧ a1 * b2 - a2 * b1 = cst c ∧ c ≠ 0 ∧ a2.len < a1.len
  lt : G.len < F.len
  f : ∃ u v, F = u * A + v * B
  g : ∃ u v, G = u * A + v * B
theorem add_len_of_lt {p q : Pol} (h : q.len < p.len) : (p + q).len = p.len := by
  have h0 : 0 < p.len := by omega
  have e : p.len = p.len - 1 + 1 := by omega
  rw [e]
  refine Pol.len_eq (fun i hi => ?_) ?_
  · rw [add_c, Pol.c_ge (p := p) (by omega), Pol.c_ge (p := q) (by omega)]; grind
  · rw [add_c, Pol.c_ge (p := q) (by omega)]
    have := Pol.c_last h0
    grind
theorem cst_inv {s : Rat} (h : s ≠ 0) : cst s * cst s⁻¹ = 1 := by
  rw [← cst_mul, one_eq]; congr 1; grind
theorem cst_inj {a b : Rat} (h : cst a = cst b) : a = b := by
  have := congrArg (fun p => Pol.c p 0) h
  simp only [cst_c, if_true] at this
  exact this
theorem smul_len {s : Rat} (h : s ≠ 0) (p : Pol) : (cst s * p).len = p.len := by
  by_cases hp : p = 0
  · subst hp
    have : cst s * 0 = 0 := by grind
    rw [this]
  · rw [mul_len (cst_ne h) hp, cst_len h]; omega
theorem Rel.first {A B R Q : Pol} {s r : Rat} (hs : s ≠ 0) (hr : r ≠ 0) (h : cst s * A = Q * B + cst r * R) (hl : R.len < B.len) : Rel B A B R := by
  have es := cst_inv hs
  have er := cst_inv hr
  refine ⟨⟨1, 0, cst s⁻¹ * Q, cst s⁻¹ * cst r, s⁻¹ * r, by grind, by grind, by rw [cst_mul]; grind, by grind, by rw [one_len, len_zero]; omega⟩, hl, ⟨1, 0, by grind⟩, ⟨cst r⁻¹ * (-Q), cst r⁻¹ * cst s, by grind⟩⟩
theorem Rel.step {A B F G R Q : Pol} {s r : Rat} (h : Rel A B F G) (hs : s ≠ 0) (hr : r ≠ 0) (e : cst s * F = Q * G + cst r * R) (hG : G ≠ 0) (hl : R.len < G.len) : Rel A B G R := by
  obtain ⟨a1, a2, b1, b2, c, hA, hB, hd, hc, hlt⟩ := h.ex
  obtain ⟨u, v, hf⟩ := h.f
  obtain ⟨u', v', hg⟩ := h.g
  have es := cst_inv hs
  have er := cst_inv hr
  have hF : F ≠ 0 := fun z => by have := h.lt; rw [z, len_zero] at this; omega
  have ha1 : a1 ≠ 0 := fun z => by rw [z, len_zero] at hlt; omega
  have hQ : Q ≠ 0 := fun z => by
    have h1 := smul_len hs F
    have h2 : (Q * G + cst r * R).len = R.len := by
      have : Q * G + cst r * R = cst r * R := by rw [z]; grind
      rw [this, smul_len hr]
    rw [e] at h1
    have := h.lt
    omega
  have hQl : Q.len = F.len - G.len + 1 := by
    have h1 := smul_len hs F
    have h2 := mul_len hQ hG
    have h3 : (cst r * R).len < (Q * G).len := by
      rw [smul_len hr, h2]
      have := Pol.len_pos hQ
      omega
    rw [e, add_len_of_lt h3, h2] at h1
    have := h.lt
    have := Pol.len_pos hG
    omega
  have hk : (cst s⁻¹ * Q * a1).len = Q.len + a1.len - 1 := by
    rw [Pol.mul_assoc, smul_len (by grind), mul_len hQ ha1]
  refine ⟨⟨cst s⁻¹ * Q * a1 + a2, cst s⁻¹ * cst r * a1, cst s⁻¹ * Q * b1 + b2, cst s⁻¹ * cst r * b1, -(s⁻¹ * r * c), by grind, by grind, ?_, by grind, ?_⟩, hl, ⟨u', v', hg⟩, ⟨cst r⁻¹ * (cst s * u - Q * u'), cst r⁻¹ * (cst s * v - Q * v'), by grind⟩⟩
  · rw [cst_neg, cst_mul, cst_mul, ← hd]; grind
  · have h1 := h.lt
    have h2 := Pol.len_pos ha1
    rw [add_len_of_lt (by omega), hk, Pol.mul_assoc, smul_len (by grind), smul_len hr]
    omega
theorem Rel.end_ {A B F : Pol} (h : Rel A B F 0) : F ∣ A ∧ F ∣ B ∧ ∃ u v, F = u * A + v * B := by
  obtain ⟨a1, a2, b1, b2, c, hA, hB, hd, hc, hlt⟩ := h.ex
  exact ⟨⟨a1, by grind⟩, ⟨b1, by grind⟩, h.f⟩

/-- the only integer that divides all of z is a unit -/
def Prim (z : ZS) : Prop := ∀ d : Nat, (∀ i, (d : Int) ∣ z i) → d = 1
theorem prim_scale {z y : ZS} {l : Rat} (hz : Prim z) (h : ∀ i, (y i : Rat) = l * (z i : Rat)) (hl : l ≠ 0) : ∀ i, (z i).natAbs ≤ (y i).natAbs := by
  have hd : l.den = 1 := hz l.den fun i => by
    have h1 := h i
    have h2 : (y i : Rat) * (l.den : Rat) = (l.num : Rat) * (z i : Rat) := by
      rw [h1]
      have : l * (l.den : Rat) = (l.num : Rat) := rat_mul_den l
      grind
    have h3 : y i * (l.den : Int) = l.num * z i := by
      have h4 : ((y i * (l.den : Int) : Int) : Rat) = ((l.num * z i : Int) : Rat) := by
        rw [Rat.intCast_mul, Rat.intCast_mul, Rat.intCast_natCast]; exact h2
      exact Rat.intCast_inj.mp h4
    have h5 : (l.den : Int) ∣ l.num * z i := ⟨y i, by rw [← h3, Int.mul_comm]⟩
    have h6 : Nat.Coprime l.den l.num.natAbs := Nat.Coprime.symm l.reduced
    have h7 : l.den ∣ l.num.natAbs * (z i).natAbs := by
      rw [← Int.natAbs_mul]
      exact Int.ofNat_dvd_left.mp h5
    exact Int.ofNat_dvd_left.mpr (h6.dvd_of_dvd_mul_left h7)
  intro i
  have h1 := h i
  have h2 : l = (l.num : Rat) := by
    have : l * (l.den : Rat) = (l.num : Rat) := rat_mul_den l
    rw [hd] at this
    grind
  rw [h2, ← Rat.intCast_mul] at h1
  have h3 : y i = l.num * z i := Rat.intCast_inj.mp h1
  rw [h3, Int.natAbs_mul]
  have h4 : l.num ≠ 0 := fun q => hl (by rw [h2, q]; rfl)
  have h5 : 1 ≤ l.num.natAbs := by omega
  calc (z i).natAbs = 1 * (z i).natAbs := (Nat.one_mul _).symm
    _ ≤ _ := Nat.mul_le_mul_right _ h5
theorem Rel.size {A B F G : Pol} {a b z : ZS} {W : Nat} (h : Rel A B F G) (hA : IsZ A a) (hB : IsZ B b) (hG : IsZ G z) (hp : Prim z) (ha : ∀ k, sn k a ≤ W) (hb : ∀ k, sn k b ≤ W) (hW : 0 < W) :
    ∀ i, (z i).natAbs ≤ (4 * W) ^ ((B.len - (F.len - 1)) + (A.len - (F.len - 1))) := by
  obtain ⟨a1, a2, b1, b2, c, eA, eB, hd, hc, hlt⟩ := h.ex
  have hFG := h.lt
  have hF : F ≠ 0 := fun z => by rw [z, len_zero] at hFG; omega
  have ha1 : a1 ≠ 0 := fun z => by rw [z, len_zero] at hlt; omega
  have hA1 : A.len = a1.len + F.len - 1 := by
    have h1 := mul_len ha1 hF
    have h2 := mul_len_le a2 G
    have h3 := Pol.len_pos ha1
    rw [eA, add_len_of_lt (by omega), h1]
  have hAn : A ≠ 0 := fun z => by rw [z, len_zero] at hA1; have := Pol.len_pos ha1; omega
  have hl1 := Pol.len_pos ha1
  obtain ⟨u, v, hne, hu0, hv0, huX, hvX, hk⟩ := small_comb (a := a) (b := b) (p := B.len - (F.len - 1)) (q := A.len - (F.len - 1)) (j := F.len - 1) (by omega) ha hb (by omega)
  replace hne : Hid _ := hne
  have hU := IsZ.ofFn _ u hu0
  have hV := IsZ.ofFn _ v hv0
  have lU := ofFn_len (B.len - (F.len - 1)) fun i => (u i : Rat)
  have lV := ofFn_len (A.len - (F.len - 1)) fun i => (v i : Rat)
  generalize ofFn (B.len - (F.len - 1)) (fun i => (u i : Rat)) = U at *
  generalize ofFn (A.len - (F.len - 1)) (fun i => (v i : Rat)) = V at *
  have hSz := (hU.mul hA).add (hV.mul hB)
  have hS : (U * A + V * B).len ≤ F.len - 1 := Pol.len_le fun i hi => by
    rcases Nat.lt_or_ge i (F.len - 1 + ((B.len - (F.len - 1)) + (A.len - (F.len - 1)) - 1)) with hlt' | hge
    · rw [hSz]
      show ((zmul u a i + zmul v b i : Int) : Rat) = 0
      rw [hk i hi hlt']; rfl
    · refine Pol.c_ge ?_
      have h1 := add_len_le (U * A) (V * B)
      have h2 := mul_len_le V B
      have h3 : (U * A).len ≤ U.len + A.len - 1 ∧ (U.len = 0 → (U * A).len = 0) := ⟨mul_len_le U A, fun q => by
        have := Pol.len_eq_zero.mp q
        rw [this, Pol.zero_mul, len_zero]⟩
      omega
  have eS : U * A + V * B = (U * a1 + V * b1) * F + (U * a2 + V * b2) * G := by grind
  have eV : cst c * V = (U * a2 + V * b2) * a1 - (U * a1 + V * b1) * a2 := by rw [← hd]; grind
  have hX : U * a1 + V * b1 = 0 := by
    by_cases hX : U * a1 + V * b1 = 0
    · exact hX
    · exfalso
      generalize U * a1 + V * b1 = X at *
      generalize U * a2 + V * b2 = Y at *
      have h1 := mul_len hX hF
      have h2 := Pol.len_pos hX
      have hF1 := Pol.len_pos hF
      have hY : Y ≠ 0 := fun q => by
        rw [eS, q] at hS
        have : X * F + 0 * G = X * F := by grind
        rw [this] at hS
        omega
      have hG0 : G ≠ 0 := fun q => by
        rw [eS, q] at hS
        have : X * F + Y * 0 = X * F := by grind
        rw [this] at hS
        omega
      have h3 := mul_len hY hG0
      have hG1 := Pol.len_pos hG0
      have hY1 := Pol.len_pos hY
      have h4 : (Y * G).len = (X * F).len := by
        have e5 : Y * G = -(X * F) + (U * A + V * B) := by grind
        rw [e5, add_len_of_lt (by rw [neg_len]; omega), neg_len]
      have h6 : (cst c * V).len = Y.len + a1.len - 1 := by
        have h7 := mul_len hY ha1
        have h8 := mul_len_le X a2
        have e9 : Y * a1 - X * a2 = Y * a1 + -(X * a2) := by grind
        rw [eV, e9, add_len_of_lt (by rw [neg_len]; omega), h7]
      rw [smul_len hc] at h6
      omega
  rw [hX] at eS eV
  have eS' : U * A + V * B = (U * a2 + V * b2) * G := by rw [eS]; grind
  have eV' : cst c * V = (U * a2 + V * b2) * a1 := by rw [eV]; grind
  generalize U * a2 + V * b2 = Y at *
  have hY : Y ≠ 0 := fun q => by
    have hV0 : V = 0 := by
      have : cst c * V = 0 := by rw [eV', q]; grind
      rcases mul_eq_zero' this with w | w
      · exact absurd w (cst_ne hc)
      · exact w
    have hU0 : U = 0 := by
      have : U * A = 0 := by
        have : U * A + V * B = 0 := by rw [eS', q]; grind
        rw [hV0] at this
        grind
      rcases mul_eq_zero' this with w | w
      · exact w
      · exact absurd w hAn
    rcases (show _ ∨ _ from hne) with ⟨i, hi, hh⟩ | ⟨i, hi, hh⟩
    · exact hh (hU.zero (by rw [hU0, zero_c]))
    · exact hh (hV.zero (by rw [hV0, zero_c]))
  have hYl : Y.len ≤ 1 := by
    have h1 := mul_len hY ha1
    rw [← eV', smul_len hc] at h1
    omega
  have hYc := len_one hYl
  have hY0 : Y.c 0 ≠ 0 := fun q => hY (by rw [hYc, q]; rfl)
  have key := prim_scale (y := fun i => zmul u a i + zmul v b i) hp (fun i => by
    rw [← hSz i, eS', hYc, cst_mul_c, hG i]
    congr 1
    rw [cst_c, if_pos rfl]) hY0
  intro i
  refine Nat.le_trans (key i) ?_
  have h1 := zmul_bound (g := a) (n := i) huX
  have h2 := zmul_bound (g := b) (n := i) hvX
  have h3 := Nat.mul_le_mul_left ((2 * (W + W)) ^ ((B.len - (F.len - 1)) + (A.len - (F.len - 1)) - 1)) (ha (i + 1))
  have h4 := Nat.mul_le_mul_left ((2 * (W + W)) ^ ((B.len - (F.len - 1)) + (A.len - (F.len - 1)) - 1)) (hb (i + 1))
  have h5 := Int.natAbs_add_le (zmul u a i) (zmul v b i)
  show (zmul u a i + zmul v b i).natAbs ≤ _
  have e1 : 2 * (W + W) = 4 * W := by omega
  rw [e1] at h1 h2 h3 h4
  have e2 : (4 * W) ^ ((B.len - (F.len - 1)) + (A.len - (F.len - 1))) = (4 * W) ^ ((B.len - (F.len - 1)) + (A.len - (F.len - 1)) - 1) * (4 * W) := by
    rw [← Nat.pow_succ]; congr 1; omega
  rw [e2]
  generalize (4 * W) ^ ((B.len - (F.len - 1)) + (A.len - (F.len - 1)) - 1) = P at *
  have e3 : P * (4 * W) = P * W + P * W + (P * W + P * W) := by grind
  rw [e3]
  omega
end K31
set_option Elab.async false
set_option linter.all false
set_option maxRecDepth 100000
set_option maxHeartbeats 2000000
/-! W1: Ratio. -/
namespace K31
open PySem PySem.Spec L2
def SZ : Nat := 64000000
theorem SZ_le : SZ + SZ ≤ 134217728 := by decide
theorem SZ_pos : 0 < SZ := by decide
def RB (q : Rat) : Prop := q.num.natAbs < 2 ^ SZ ∧ q.den < 2 ^ SZ
def vR (K : PySem.W.Frag) (q : Rat) : VP := vIn (He.ga K "Ratio") [("n", vI q.num), ("d", vI (q.den : Int))]
/-- the sign of the divisor on the common divisor -/
def sgc (n d : Int) : Int := if decide (0 < d) = true then ((Nat.gcd n.natAbs d.natAbs : Nat) : Int) else -((Nat.gcd n.natAbs d.natAbs : Nat) : Int)
theorem rat_c (n d : Int) (hd : d ≠ 0) : sgc n d ≠ 0 ∧ n = ((n : Rat) / (d : Rat)).num * sgc n d ∧ d = (((n : Rat) / (d : Rat)).den : Int) * sgc n d := by
  generalize hq : (n : Rat) / (d : Rat) = q
  have hd' : (d : Rat) ≠ 0 := by
    intro z
    exact hd (Rat.intCast_eq_zero_iff.mp z)
  have h1 : (q.num : Rat) * (d : Rat) = (n : Rat) * ((q.den : Nat) : Rat) := by
    have h2 := rat_mul_den q
    rw [← h2, ← hq]
    grind
  have h2 : q.num * d = n * (q.den : Int) := by
    have : ((q.num * d : Int) : Rat) = ((n * (q.den : Int) : Int) : Rat) := by
      rw [Rat.intCast_mul, Rat.intCast_mul, h1, Rat.intCast_natCast]
    exact Rat.intCast_inj.mp this
  have hden : 0 < q.den := q.den_pos
  have h3 : q.den ∣ d.natAbs := by
    refine Nat.Coprime.dvd_of_dvd_mul_left (m := q.num.natAbs) q.reduced.symm ?_
    rw [← Int.natAbs_mul, h2, Int.natAbs_mul, Int.natAbs_natCast]
    exact Nat.dvd_mul_left _ _
  obtain ⟨k, hk⟩ : (q.den : Int) ∣ d := Int.ofNat_dvd_left.mpr h3
  have h4 : n = q.num * k := by
    have h5 : (n - q.num * k) * (q.den : Int) = 0 := by
      rw [Int.sub_mul, ← h2, hk]; grind
    rcases Int.mul_eq_zero.mp h5 with z | z
    · omega
    · omega
  have hk0 : k ≠ 0 := fun z => hd (by rw [hk, z]; simp)
  have hg : Nat.gcd n.natAbs d.natAbs = k.natAbs := by
    rw [h4, hk, Int.natAbs_mul, Int.natAbs_mul, Int.natAbs_natCast, Nat.gcd_mul_right]
    have : Nat.gcd q.num.natAbs q.den = 1 := q.reduced
    rw [this, Nat.one_mul]
  have hs : sgc n d = k := by
    unfold sgc
    rw [hg]
    have e1 : 0 < d ↔ 0 < k := by
      rw [hk]
      constructor
      · intro z
        rcases Int.lt_trichotomy k 0 with y | y | y
        · have : (q.den : Int) * k < 0 := Int.mul_neg_of_pos_of_neg (by omega) y
          omega
        · omega
        · exact y
      · intro z
        exact Int.mul_pos (by omega) z
    by_cases hp : 0 < d
    · rw [if_pos (decide_eq_true hp)]
      have := e1.mp hp
      omega
    · rw [if_neg (by rw [decide_eq_false hp]; exact Bool.false_ne_true)]
      have : ¬ 0 < k := fun z => hp (e1.mpr z)
      omega
  rw [hs]
  exact ⟨hk0, h4, hk⟩
structure Ev (P : Program) (K : PySem.W.Frag) (mg : Str → Option Value) : Prop where
  W : Wd K mg
  tr : P.given.tree = none
section
variable {P : Program} {w : World} {K : PySem.W.Frag} {mg : Str → Option Value} {base : Heap}
theorem mk_met {k : Nat} {C f : Addr} {m : Str} {fd : FuncData} {ps : List Str} {Ps : List VP} {R : VP} (hc : Cls K C) (hm : Meth K C m f) (F : FnOk P w K mg base CX0 k f fd ps (spV Ps R)) (b : Binds K fd ps []) : MetT P w K mg base k C m Ps [] R := ⟨f, fd, ps, [], hc, hm, F, b, .nil⟩
theorem mk_cal {k : Nat} {f : Addr} {x : Str} {fd : FuncData} {ps : List Str} {Ps : List VP} {R : VP} (F : FnOk P w K mg base CX0 k f fd ps (spV Ps R)) (hm : mg x = some (.ref f)) (kp : PySem.W.keepIn K (.ref f) = true) (b : Binds K fd ps []) : CalT P w K mg base k x Ps [] R := ⟨f, fd, ps, [], F, hm, kp, b, .nil⟩
theorem mk_mak {k : Nat} {C f : Addr} {x : Str} {fd : FuncData} {ps : List Str} {Ps : List VP} {R : VP} (m : Mk K C f) (F : FnOk P w K mg base CX0 k f fd ps (spI C Ps R)) (hm : mg x = some (.ref C)) (b : Binds K fd ps []) : MakT P w K mg base k x C Ps [] R := ⟨f, fd, ps, [], m, F, hm, b, .nil⟩
theorem divOk0 (V : Ev P K mg) {N ps : List Str} {qual : Str} {scope : Scope} (S : FnScope N ps scope) {f : Addr} {cdv : Value} {A : Around} {outer : List Env} {s : Shared} {H : Hp} {E : XK} {k : Nat} (hr : Room k (A.deeper (PyProof.Rows.envOfC qual scope s.heap.objs.size f cdv))) (hk : 33 ≤ k) : DivOk (cx0 P w K mg base N qual scope f cdv A outer s H E) where
  tree := V.tr
  seer := V.W.m.seer
  dp := by
    have := hr.dp
    have e : Builtin.pylongFrames = 100 := rfl
    show (A.deeper _).depth + Builtin.pylongFrames < recursionLimit
    rw [e]
    omega
  st := ⟨_, _, rfl, S.gen, S.co, rfl, rfl⟩
end
section
variable {P : Program} {w : World} {K : PySem.W.Frag} {mg : Str → Option Value} {base : Heap}
theorem R_init_fn (V : Ev P K mg) {fd : FuncData} (F : FunD K "__init__" "Ratio.__init__" (defArgs st_R_init) (defBody st_R_init) (defScope st_R_init) [.int 1] [] (He.fAd K ("Ratio", some "__init__")) fd) (n d : Int) (hd : d ≠ 0) :
    FnOk P w K mg base CX0 40 (He.fAd K ("Ratio", some "__init__")) fd p_R_init (spI (He.ga K "Ratio") [vI n, vI d] (vR K ((n : Rat) / (d : Rat)))) := by
  refine fn_I F sc_R_init rfl fun cdv A outer s H H0 E Q y dx hr q => ?_
  have D := divOk0 (w := w) (base := base) (outer := outer) (H := H) (E := E) V sc_R_init hr (by omega)
  obtain ⟨c0, c1, c2⟩ := rat_c n d hd
  refine s_ifR (k := false) (t_eq (t_cmp (e_nm 2) e_int o_eq) (decide_eq_false hd)) (fun z => absurd z (by decide)) fun _ => ?_
  refine s_asg (P := vI (sgc n d)) 3 (e_if (k := decide (0 < d)) (t_cmp (e_nm 2) e_int o_gt) (fun h => e_eq (e_bfun c_gcd rfl V.W.m.gcd (a_cons (e_nm 1) (a_cons (e_nm 2) a_nil))) (by unfold sgc; rw [if_pos h])) (fun h => e_eq (e_un (e_bfun c_gcd rfl V.W.m.gcd (a_cons (e_nm 1) (a_cons (e_nm 2) a_nil))) u_neg) (by unfold sgc; rw [if_neg (by rw [h]; exact Bool.false_ne_true)]))) ?_ sc_R_init.nd
  refine s_fld 0 rfl (e_nm 0) (e_bin (e_nm 1) (e_nm 3) (o_fdivX D c0 c1)) V.W.cl_R V.W.na_R_n (show (0 : Nat) < 1000 by decide) ?_
  refine s_fld 0 rfl (e_nm 0) (e_bin (e_nm 2) (e_nm 3) (o_fdivX D c0 c2)) V.W.cl_R V.W.na_R_d (show (1 : Nat) < 1000 by decide) ?_
  refine s_nil fun t Hf H1 s1 o m => ?_
  have e : H1 = H1 := rfl
  refine q H1 (s1.trans m.same) ?_
  obtain ⟨gs, hx, its⟩ := m.atI (k := 0) rfl
  exact ⟨y, dx, gs, rfl, hx, its.mono m.same⟩

theorem R_b2 (V : Ev P K mg) {fd : FuncData} (F : FunD K "__init__" "Ratio.__init__" (defArgs st_R_init) (defBody st_R_init) (defScope st_R_init) [.int 1] [] (He.fAd K ("Ratio", some "__init__")) fd) : Binds K fd p_R_init [] := by
  obtain ⟨ds, hv, hb⟩ := F.binds1 (ps := p_R_init) 3 1 (by simp) rfl (fun T kV doc pm an cdv ct us its hu hi => match us, its, hu, hi with | [_, _, _], [_], _, _ => ⟨_, rfl, rfl⟩)
  cases hv
  exact hb
theorem R_b1 (V : Ev P K mg) {fd : FuncData} (F : FunD K "__init__" "Ratio.__init__" (defArgs st_R_init) (defBody st_R_init) (defScope st_R_init) [.int 1] [] (He.fAd K ("Ratio", some "__init__")) fd) : ∃ ds, Vals [.int 1] ds ∧ Binds K fd p_R_init ds :=
  F.binds1 (ps := p_R_init) 2 0 (by simp) rfl (fun T kV doc pm an cdv ct us its hu hi => match us, its, hu, hi with | [_, _], [_], _, _ => ⟨_, rfl, rfl⟩)
theorem R_mk2 (V : Ev P K mg) (n d : Int) (hd : d ≠ 0) : MakT P w K mg base 40 "Ratio" (He.ga K "Ratio") [vI n, vI d] [] (vR K ((n : Rat) / (d : Rat))) := by
  obtain ⟨fd, F⟩ := V.W.fd_R_init
  exact mk_mak V.W.mk_R (R_init_fn V F n d hd) V.W.gc_Ratio (R_b2 V F)
theorem R_mk1 (V : Ev P K mg) (n : Int) : MakT P w K mg base 40 "Ratio" (He.ga K "Ratio") ([vI n] ++ [vI 1]) [.int 1] (vR K (n : Rat)) := by
  obtain ⟨fd, F⟩ := V.W.fd_R_init
  obtain ⟨ds, hv, hb⟩ := R_b1 V F
  have h := R_init_fn (w := w) (base := base) V F n 1 (by decide)
  have e : ((n : Int) : Rat) / ((1 : Int) : Rat) = (n : Rat) := by
    have : ((1 : Int) : Rat) = 1 := rfl
    rw [this]; grind
  rw [e] at h
  exact ⟨_, fd, _, ds, V.W.mk_R, h, V.W.gc_Ratio, hb, hv⟩
theorem den_ne (q : Rat) : ((q.den : Nat) : Int) ≠ 0 := by
  have := q.den_nz
  omega
theorem RB.nn {q r : Rat} (h : RB q) (k : RB r) : CMulX q.num r.num := mulx_ok h.1 k.1 SZ_le
theorem RB.nd {q r : Rat} (h : RB q) (k : RB r) : CMulX q.num (r.den : Int) := mulx_ok h.1 (by rw [Int.natAbs_natCast]; exact k.2) SZ_le
theorem RB.dd {q r : Rat} (h : RB q) (k : RB r) : CMulX (q.den : Int) (r.den : Int) := mulx_ok (by rw [Int.natAbs_natCast]; exact h.2) (by rw [Int.natAbs_natCast]; exact k.2) SZ_le
theorem rat_eq_div {q r s : Rat} {n d : Int} (hd : d ≠ 0) (h : s * (d : Rat) = (n : Rat)) : (n : Rat) / (d : Rat) = s := by
  have hd' : (d : Rat) ≠ 0 := fun z => hd (Rat.intCast_eq_zero_iff.mp z)
  rw [← h]; grind
theorem cast_den (q : Rat) : (((q.den : Nat) : Int) : Rat) = ((q.den : Nat) : Rat) := rfl
theorem rat_add_c (q r : Rat) : (((q.num * r.den + r.num * q.den : Int) : Rat)) / ((((q.den : Int) * (r.den : Int) : Int)) : Rat) = q + r := by
  have h1 := rat_mul_den q
  have h2 := rat_mul_den r
  have h3 := rat_den_ne q
  have h4 := rat_den_ne r
  rw [Rat.intCast_add, Rat.intCast_mul, Rat.intCast_mul, Rat.intCast_mul, cast_den, cast_den, ← h1, ← h2]
  grind
theorem rat_sub_c (q r : Rat) : (((q.num * r.den - r.num * q.den : Int) : Rat)) / ((((q.den : Int) * (r.den : Int) : Int)) : Rat) = q - r := by
  have h1 := rat_mul_den q
  have h2 := rat_mul_den r
  have h3 := rat_den_ne q
  have h4 := rat_den_ne r
  rw [Rat.intCast_sub, Rat.intCast_mul, Rat.intCast_mul, Rat.intCast_mul, cast_den, cast_den, ← h1, ← h2]
  grind
theorem rat_mul_c (q r : Rat) : (((q.num * r.num : Int) : Rat)) / ((((q.den : Int) * (r.den : Int) : Int)) : Rat) = q * r := by
  have h1 := rat_mul_den q
  have h2 := rat_mul_den r
  have h3 := rat_den_ne q
  have h4 := rat_den_ne r
  rw [Rat.intCast_mul, Rat.intCast_mul, cast_den, cast_den, ← h1, ← h2]
  grind
theorem rat_neg_c (q : Rat) : (((-q.num : Int) : Rat)) / ((((q.den : Int) : Int)) : Rat) = -q := by
  have h1 := rat_mul_den q
  have h3 := rat_den_ne q
  rw [Rat.intCast_neg, cast_den, ← h1]
  grind
theorem rat_inv_c (q : Rat) (h : q ≠ 0) : ((((q.den : Int) : Int)) : Rat) / ((q.num : Int) : Rat) = q⁻¹ := by
  have h1 := rat_mul_den q
  have h3 := rat_den_ne q
  rw [cast_den, ← h1]
  grind
theorem dd_ne (q r : Rat) : ((q.den : Int) * (r.den : Int)) ≠ 0 := Int.mul_ne_zero (den_ne q) (den_ne r)
theorem rat_eq_b (q r : Rat) : (true && (decide (q.num = r.num) && decide ((q.den : Int) = (r.den : Int)))) = decide (q = r) := by
  rw [Bool.true_and]
  by_cases h : q = r
  · subst h; simp
  · rw [decide_eq_false h]
    by_cases h1 : q.num = r.num
    · by_cases h2 : (q.den : Int) = (r.den : Int)
      · exact absurd (Rat.ext h1 (by omega)) h
      · rw [decide_eq_false h2, Bool.and_false]
    · rw [decide_eq_false h1, Bool.false_and]
theorem R_add (V : Ev P K mg) (q r : Rat) (hq : RB q) (hr2 : RB r) : MetT P w K mg base 42 (He.ga K "Ratio") "__add__" [vR K q, vR K r] [] (vR K (q + r)) := by
  obtain ⟨fd, F⟩ := V.W.fd_R_add
  refine mk_met V.W.cl_R V.W.me_R_add (fn_V F sc_R_add rfl fun cdv A outer s H E Q hr q' => ?_) (F.bindsN fun kV doc pm an cdv ct us hl => match us, hl with | [_, _], _ => rfl)
  refine s_retV (e_eq (e_mk (R_mk2 V _ _ (dd_ne q r)) hr (by omega) rfl (a_cons (e_bin (e_bin (e_fld (e_nm 0) V.W.cl_R V.W.na_R_n rfl) (e_fld (e_nm 1) V.W.cl_R V.W.na_R_d rfl) (o_mul (hq.nd hr2))) (e_bin (e_fld (e_nm 1) V.W.cl_R V.W.na_R_n rfl) (e_fld (e_nm 0) V.W.cl_R V.W.na_R_d rfl) (o_mul (hr2.nd hq))) o_add) (a_cons (e_bin (e_fld (e_nm 0) V.W.cl_R V.W.na_R_d rfl) (e_fld (e_nm 1) V.W.cl_R V.W.na_R_d rfl) (o_mul (hq.dd hr2))) a_nil))) (by rw [rat_add_c])) rfl q'
theorem R_sub (V : Ev P K mg) (q r : Rat) (hq : RB q) (hr2 : RB r) : MetT P w K mg base 42 (He.ga K "Ratio") "__sub__" [vR K q, vR K r] [] (vR K (q - r)) := by
  obtain ⟨fd, F⟩ := V.W.fd_R_sub
  refine mk_met V.W.cl_R V.W.me_R_sub (fn_V F sc_R_sub rfl fun cdv A outer s H E Q hr q' => ?_) (F.bindsN fun kV doc pm an cdv ct us hl => match us, hl with | [_, _], _ => rfl)
  refine s_retV (e_eq (e_mk (R_mk2 V _ _ (dd_ne q r)) hr (by omega) rfl (a_cons (e_bin (e_bin (e_fld (e_nm 0) V.W.cl_R V.W.na_R_n rfl) (e_fld (e_nm 1) V.W.cl_R V.W.na_R_d rfl) (o_mul (hq.nd hr2))) (e_bin (e_fld (e_nm 1) V.W.cl_R V.W.na_R_n rfl) (e_fld (e_nm 0) V.W.cl_R V.W.na_R_d rfl) (o_mul (hr2.nd hq))) o_sub) (a_cons (e_bin (e_fld (e_nm 0) V.W.cl_R V.W.na_R_d rfl) (e_fld (e_nm 1) V.W.cl_R V.W.na_R_d rfl) (o_mul (hq.dd hr2))) a_nil))) (by rw [rat_sub_c])) rfl q'
theorem R_mul (V : Ev P K mg) (q r : Rat) (hq : RB q) (hr2 : RB r) : MetT P w K mg base 42 (He.ga K "Ratio") "__mul__" [vR K q, vR K r] [] (vR K (q * r)) := by
  obtain ⟨fd, F⟩ := V.W.fd_R_mul
  refine mk_met V.W.cl_R V.W.me_R_mul (fn_V F sc_R_mul rfl fun cdv A outer s H E Q hr q' => ?_) (F.bindsN fun kV doc pm an cdv ct us hl => match us, hl with | [_, _], _ => rfl)
  refine s_retV (e_eq (e_mk (R_mk2 V _ _ (dd_ne q r)) hr (by omega) rfl (a_cons (e_bin (e_fld (e_nm 0) V.W.cl_R V.W.na_R_n rfl) (e_fld (e_nm 1) V.W.cl_R V.W.na_R_n rfl) (o_mul (hq.nn hr2))) (a_cons (e_bin (e_fld (e_nm 0) V.W.cl_R V.W.na_R_d rfl) (e_fld (e_nm 1) V.W.cl_R V.W.na_R_d rfl) (o_mul (hq.dd hr2))) a_nil))) (by rw [rat_mul_c])) rfl q'
theorem R_neg (V : Ev P K mg) (q : Rat) : MetT P w K mg base 42 (He.ga K "Ratio") "__neg__" [vR K q] [] (vR K (-q)) := by
  obtain ⟨fd, F⟩ := V.W.fd_R_neg
  refine mk_met V.W.cl_R V.W.me_R_neg (fn_V F sc_R_neg rfl fun cdv A outer s H E Q hr q' => ?_) (F.bindsN fun kV doc pm an cdv ct us hl => match us, hl with | [_], _ => rfl)
  refine s_retV (e_eq (e_mk (R_mk2 V _ _ (den_ne q)) hr (by omega) rfl (a_cons (e_un (e_fld (e_nm 0) V.W.cl_R V.W.na_R_n rfl) u_neg) (a_cons (e_fld (e_nm 0) V.W.cl_R V.W.na_R_d rfl) a_nil))) (by rw [rat_neg_c])) rfl q'
theorem R_inverse (V : Ev P K mg) (q : Rat) (h : q ≠ 0) : MetT P w K mg base 42 (He.ga K "Ratio") "inverse" [vR K q] [] (vR K q⁻¹) := by
  obtain ⟨fd, F⟩ := V.W.fd_R_inverse
  refine mk_met V.W.cl_R V.W.me_R_inverse (fn_V F sc_R_inverse rfl fun cdv A outer s H E Q hr q' => ?_) (F.bindsN fun kV doc pm an cdv ct us hl => match us, hl with | [_], _ => rfl)
  refine s_retV (e_eq (e_mk (R_mk2 V _ _ (fun z => h (Rat.num_eq_zero.mp z))) hr (by omega) rfl (a_cons (e_fld (e_nm 0) V.W.cl_R V.W.na_R_d rfl) (a_cons (e_fld (e_nm 0) V.W.cl_R V.W.na_R_n rfl) a_nil))) (by rw [rat_inv_c q h])) rfl q'
theorem R_eq (V : Ev P K mg) (q r : Rat) : MetT P w K mg base 42 (He.ga K "Ratio") "__eq__" [vR K q, vR K r] [] (vB (decide (q = r))) := by
  obtain ⟨fd, F⟩ := V.W.fd_R_eq
  refine mk_met V.W.cl_R V.W.me_R_eq (fn_V F sc_R_eq rfl fun cdv A outer s H E Q hr q' => ?_) (F.bindsN fun kV doc pm an cdv ct us hl => match us, hl with | [_, _], _ => rfl)
  refine s_retV (e_eq (e_and (j := true) (e_blt (c_isO V.W.cl_R V.W.m.iR V.W.m.hn V.W.m.htk) rfl V.W.fr_isinstance PyProof.Rows.boot_isinstance (a_cons (e_nm 1) (a_cons (e_cls rfl V.W.gc_Ratio) a_nil))) fun _ => e_and (j := decide (q.num = r.num)) (e_cmp (e_fld (e_nm 0) V.W.cl_R V.W.na_R_n rfl) (e_fld (e_nm 1) V.W.cl_R V.W.na_R_n rfl) o_eq) fun _ => e_one (e_cmp (e_fld (e_nm 0) V.W.cl_R V.W.na_R_d rfl) (e_fld (e_nm 1) V.W.cl_R V.W.na_R_d rfl) o_eq)) (by rw [rat_eq_b])) rfl q'
end
end K31
set_option Elab.async false
set_option linter.all false
set_option maxRecDepth 100000
set_option maxHeartbeats 2000000
/-! W2: Poly, first part. -/
namespace K31
open PySem PySem.Spec L2
theorem trim_take (l : List Rat) (s : Nat) (h1 : s ≤ l.length) (h2 : ∀ i, s ≤ i → l.getD i 0 = 0) (h3 : s = 0 ∨ l.getD (s - 1) 0 ≠ 0) : l.take s = trimR l := by
  refine Trim.ext ?_ (trimR_trim l) fun i => ?_
  · intro a ha
    rcases h3 with z | z
    · subst z; simp at ha
    · by_cases hs : s = 0
      · subst hs; simp at ha
      · rw [List.getLast?_eq_getElem?, List.length_take, Nat.min_eq_left h1, List.getElem?_take, if_pos (by omega)] at ha
        rw [List.getD_eq_getElem?_getD, ha] at z
        exact z
  · rw [trimR_get]
    rw [List.getD_eq_getElem?_getD, List.getD_eq_getElem?_getD, List.getElem?_take]
    split
    · rfl
    · rename_i hi
      have := h2 i (by omega)
      rw [List.getD_eq_getElem?_getD] at this
      rw [this]; rfl
theorem sub1_cast {s : Nat} (h : 0 < s) : ((s : Int) - 1) = ((s - 1 : Nat) : Int) := by omega
def vRs (K : PySem.W.Frag) (l : List Rat) : List VP := l.map (vR K)
theorem vRs_get {K : PySem.W.Frag} {l : List Rat} {i : Nat} (h : i < l.length) : (vRs K l)[i]? = some (vR K (l.getD i 0)) := by
  unfold vRs
  rw [List.getElem?_map, List.getElem?_eq_getElem h, List.getD_eq_getElem?_getD, List.getElem?_eq_getElem h]; rfl
theorem vRs_len {K : PySem.W.Frag} {l : List Rat} : (vRs K l).length = l.length := List.length_map _
def vP (K : PySem.W.Frag) (p : Pol) : VP := vIn (He.ga K "Poly") [("row", vTu (vRs K p.l))]
section
variable {P : Program} {w : World} {K : PySem.W.Frag} {mg : Str → Option Value} {base : Heap}
theorem trimmed_c (V : Ev P K mg) (l : List Rat) : CalT P w K mg base 1 "_trimmed" [vLs (vRs K l)] [] (vTu (vRs K (trimR l))) := by
  obtain ⟨fd, F⟩ := V.W.fd_trimmed
  refine mk_cal (fn_V F sc_trimmed rfl fun cdv A outer s H E Q hr q => ?_) V.W.gl_trimmed F.kp (F.bindsN fun kV doc pm an cdv ct us hl => match us, hl with | [_], _ => rfl)
  refine s_asg 1 (e_eq (e_blt (c_len rfl) rfl V.W.fr_len PySem.boot_len (a_cons (e_sqL (e_nm 0)) a_nil)) (by rw [vRs_len])) ?_ sc_trimmed.nd
  refine s_while (I := Nat) (fun s => s ≤ l.length ∧ ∀ i, s ≤ i → l.getD i 0 = 0) (fun s => [some (vLs (vRs K l)), some (vI ((s : Nat) : Int))]) (fun _ => []) (fun s => s) (fun s => decide (0 < (s : Int)) && decide ((l.getD (s - 1) 0).num = 0)) l.length ⟨Nat.le_refl _, fun i hi => by
      rw [List.getD_eq_getElem?_getD, List.getElem?_eq_none hi]; rfl⟩ ⟨rfl, rfl, trivial⟩ rfl (fun s hs => ?_) (fun Hb s sm hs hk => ?_) (fun Hb s sm hs hk => ?_) .never
  · refine t_w (w_and (t_cmp (e_nm 1) e_int o_gt) fun h => w_and1 (t_cmp (e_fld (e_ix (e_sqL (e_nm 0)) (e_eq (e_bin (e_nm 1) e_int o_sub) (by rw [sub1_cast (by have := of_decide_eq_true h; omega)])) (vRs_get ?_)) V.W.cl_R V.W.na_R_n rfl) e_int o_eq))
    have := of_decide_eq_true h
    omega
  · have h1 : 0 < s := by
      have := of_decide_eq_true (Bool.and_eq_true_iff.mp hk).1
      omega
    have h2 := of_decide_eq_true (Bool.and_eq_true_iff.mp hk).2
    refine s_asg (P := vI ((s - 1 : Nat) : Int)) 1 (e_eq (e_bin (e_nm 1) e_int o_sub) (by rw [sub1_cast h1])) ?_ sc_trimmed.nd
    refine nx_ok (s - 1) ⟨⟨by omega, fun i hi => ?_⟩, by omega⟩ rfl ⟨rfl, rfl, trivial⟩ rfl
    by_cases e : i = s - 1
    · rw [e]; exact Rat.num_eq_zero.mp h2
    · exact hs.2 i (by omega)
  · refine s_retV (e_eq (e_bty c_tuple rfl V.W.fr_tuple PyProof.Rows.boot_tuple (a_cons (e_sqL (e_slL1 (e_nm 0) (e_nm 1))) a_nil)) ?_) rfl fun v H' s' p => q v H' (sm.trans s') p
    show vTu ((vRs K l).take s) = _
    unfold vRs
    rw [← List.map_take, trim_take l s hs.1 hs.2]
    by_cases e : s = 0
    · exact .inl e
    · refine .inr fun z => ?_
      rw [z] at hk
      have : decide (0 < (s : Int)) = true := decide_eq_true (by omega)
      rw [this] at hk
      exact absurd hk (by decide)

theorem blk0 {N : List Str} {qual : Str} {scope scope2 : Scope} {f : Addr} {cdv : Value} {A : Around} {outer : List Env} {s : Shared} {H : Hp} {E : XK} {own : List (Str × Nat)} (h : blkC N scope scope2 own = true) :
    BlkOk (cx0 P w K mg base N qual scope f cdv A outer s H E).N (cx0 P w K mg base N qual scope f cdv A outer s H E).env.scope scope2 own := blkOk_by h
/-! ### Poly(row) -/
/-- an int or a Ratio -/
def vE (K : PySem.W.Frag) : Int ⊕ Rat → VP
  | .inl i => vI i
  | .inr q => vR K q
def valE : Int ⊕ Rat → Rat
  | .inl i => (i : Rat)
  | .inr q => q
def isE : Int ⊕ Rat → Bool
  | .inl _ => true
  | .inr _ => false
theorem P_init_fn (V : Ev P K mg) {fd : FuncData} (F : FunD K "__init__" "Poly.__init__" (defArgs st_P_init) (defBody st_P_init) (defScope st_P_init) [] [] (He.fAd K ("Poly", some "__init__")) fd) (l : List (Int ⊕ Rat)) (hl : l.length ≤ 100000) :
    FnOk P w K mg base CX0 42 (He.fAd K ("Poly", some "__init__")) fd p_P_init (spI (He.ga K "Poly") [vSq (l.map (vE K))] (vP K (ofList (l.map valE)))) := by
  refine fn_I F sc_P_init rfl fun cdv A outer s H H0 E Q y dx hr q => ?_
  have hlen : (l.map (vE K)).length = l.length := List.length_map _
  have key : ∀ i, i < (l.map (vE K)).length → ∃ x, l[i]? = some x ∧ atP (l.map (vE K)) i = vE K x := fun i hi => by
    have hi' : i < l.length := by rw [← hlen]; exact hi
    refine ⟨l[i], List.getElem?_eq_getElem hi', ?_⟩
    have := atP_get hi
    rw [List.getElem?_map, List.getElem?_eq_getElem hi'] at this
    exact (Option.some.inj this).symm
  refine s_fld 0 rfl (e_nm 0) (e_call (trimmed_c V (l.map valE)) hr (by omega) rfl (a_cons (e_eq (TyN.ty (n_lcG (own := [("c", 2)]) (vs := [2]) (Zp := fun i => vR K ((l.map valE).getD i 0)) (pi_seq (e_nm 1)) (by rw [hlen]; exact hl) sc_P_init.nd (blk0 (by decide +kernel)) rfl (gow_name 2) (fun _ _ _ _ _ => pg_name (i := 2) sc_P_init.nd rfl (Or.inl rfl)) (fun s2 H2 C cl fp i hi => ?_))) ?_) a_nil)) V.W.cl_P V.W.na_P_row (show (0 : Nat) < 1000 by decide) ?_
  · obtain ⟨x, hx, ex⟩ := key i hi
    have e2 : (l.map valE).getD i 0 = valE x := by rw [List.getD_eq_getElem?_getD, List.getElem?_map, hx]; rfl
    rw [e2]
    show TyE _ _ [some (vAt y), some (vSq (l.map (vE K))), some (atP (l.map (vE K)) i)] [] _
    rw [ex]
    refine e_if (k := isE x) ?_ (fun h => ?_) fun h => ?_
    · cases x with
      | inl j => exact t_val (e_blt c_isI rfl V.W.fr_isinstance PyProof.Rows.boot_isinstance (a_cons (e_nm (P := vI j) 2) (a_cons (e_ty rfl V.W.fr_int PyProof.Rows.boot_int) a_nil)))
      | inr r => exact t_val (e_blt (c_isT V.W.cl_R V.W.m.iR V.W.m.hn V.W.m.htk V.W.m.nR) rfl V.W.fr_isinstance PyProof.Rows.boot_isinstance (a_cons (e_nm (P := vR K r) 2) (a_cons (e_ty rfl V.W.fr_int PyProof.Rows.boot_int) a_nil)))
    · cases x with
      | inl j => exact e_mk0 (R_mk1 V j) (fun _ => ⟨rfl, trivial⟩) hr (by omega) rfl (a_cons (e_nm 2) a_nil)
      | inr r => exact absurd (show false = true from h) Bool.false_ne_true
    · cases x with
      | inl j => exact absurd (show true = false from h) (by decide)
      | inr r => exact e_nm 2
  · congr 1
    rw [hlen]
    show _ = (l.map valE).map (vR K)
    apply List.ext_getElem?
    intro i
    rw [List.getElem?_map, List.getElem?_map]
    by_cases hi : i < l.length
    · rw [List.getElem?_range hi]
      show some (vR K ((l.map valE).getD i 0)) = _
      rw [List.getD_eq_getElem?_getD, List.getElem?_map, List.getElem?_eq_getElem hi]; rfl
    · rw [List.getElem?_eq_none (by rw [List.length_range]; omega), List.getElem?_eq_none (by rw [List.length_map]; omega)]; rfl
  · refine s_nil fun t Hf H1 s1 o m => ?_
    refine q H1 (s1.trans m.same) ?_
    obtain ⟨gs, hx, its⟩ := m.atI (k := 0) rfl
    exact ⟨y, dx, gs, rfl, hx, its.mono m.same⟩
theorem P_mkE (V : Ev P K mg) (l : List (Int ⊕ Rat)) (hl : l.length ≤ 100000) : MakT P w K mg base 42 "Poly" (He.ga K "Poly") [vSq (l.map (vE K))] [] (vP K (ofList (l.map valE))) := by
  obtain ⟨fd, F⟩ := V.W.fd_P_init
  exact mk_mak V.W.mk_P (P_init_fn V F l hl) V.W.gc_Poly (F.bindsN fun kV doc pm an cdv ct us hl => match us, hl with | [_, _], _ => rfl)
theorem P_mk (V : Ev P K mg) (l : List Rat) (hl : l.length ≤ 100000) : MakT P w K mg base 42 "Poly" (He.ga K "Poly") [vSq (vRs K l)] [] (vP K (ofList l)) := by
  have h := P_mkE (w := w) (base := base) V (l.map Sum.inr) (by rw [List.length_map]; exact hl)
  rw [List.map_map, List.map_map] at h
  have e1 : l.map (vE K ∘ Sum.inr) = vRs K l := rfl
  have e2 : l.map (valE ∘ Sum.inr) = l := by
    have : (valE ∘ Sum.inr : Rat → Rat) = id := rfl
    rw [this, List.map_id]
  rw [e1, e2] at h
  exact h
theorem P_mkI (V : Ev P K mg) (l : List Int) (hl : l.length ≤ 100000) : MakT P w K mg base 42 "Poly" (He.ga K "Poly") [vSq (l.map vI)] [] (vP K (ofList (l.map fun (i : Int) => (i : Rat)))) := by
  have h := P_mkE (w := w) (base := base) V (l.map Sum.inl) (by rw [List.length_map]; exact hl)
  rw [List.map_map, List.map_map] at h
  exact h
end
end K31
set_option Elab.async false
set_option linter.all false
set_option maxRecDepth 100000
set_option maxHeartbeats 2000000
/-! W3: sizes of coefficients; partial sums of a product. -/
namespace K31
/-! ### sizes -/
theorem rb_of {x : Rat} {E : Nat} {z : Int} {s : Nat} (h : x * (E : Rat) = (z : Rat)) (hE : 0 < E) (h1 : E ≤ 2 ^ s) (h2 : z.natAbs ≤ 2 ^ s) (hs : s < SZ) : RB x := by
  have k1 : x.num * (E : Int) = z * (x.den : Int) := by
    have e : ((x.num * (E : Int) : Int) : Rat) = ((z * (x.den : Int) : Int) : Rat) := by
      have := rat_mul_den x
      have hd := rat_den_ne x
      rw [Rat.intCast_mul, Rat.intCast_mul, ← this, ← h, Rat.intCast_natCast, Rat.intCast_natCast]
      grind
    exact Rat.intCast_inj.mp e
  have k2 : x.den ∣ E := by
    refine Nat.Coprime.dvd_of_dvd_mul_left (m := x.num.natAbs) x.reduced.symm ?_
    have e := congrArg Int.natAbs k1
    rw [Int.natAbs_mul, Int.natAbs_mul, Int.natAbs_natCast, Int.natAbs_natCast] at e
    rw [e]
    exact Nat.dvd_mul_left _ _
  have p : 2 ^ s < 2 ^ SZ := Nat.pow_lt_pow_right (by decide) hs
  have k3 : x.den ≤ E := Nat.le_of_dvd hE k2
  refine ⟨?_, by omega⟩
  obtain ⟨k, hk⟩ := k2
  have hk0 : 0 < k := by
    rcases Nat.eq_zero_or_pos k with e | e
    · rw [e] at hk; omega
    · exact e
  have k4 : x.num.natAbs * k = z.natAbs := by
    have e := congrArg Int.natAbs k1
    rw [Int.natAbs_mul, Int.natAbs_mul, Int.natAbs_natCast, Int.natAbs_natCast, hk] at e
    have hd := x.den_pos
    have e2 : x.den * (x.num.natAbs * k) = x.den * z.natAbs := by
      rw [Nat.mul_comm x.den (z.natAbs), ← e, ← Nat.mul_assoc, ← Nat.mul_assoc, Nat.mul_comm x.den]
    exact Nat.eq_of_mul_eq_mul_left hd e2
  have k5 : x.num.natAbs ≤ x.num.natAbs * k := Nat.le_mul_of_pos_right _ hk0
  omega
/-- x is z / E, |z| at most W -/
def Fr (E : Nat) (W : Nat) (x : Rat) : Prop := ∃ z : Int, x * (E : Rat) = (z : Rat) ∧ z.natAbs ≤ W
theorem Fr.zero {E W : Nat} : Fr E W 0 := ⟨0, by rw [Rat.zero_mul]; rfl, by simp⟩
theorem Fr.mono {E W W' : Nat} {x : Rat} (h : Fr E W x) (k : W ≤ W') : Fr E W' x := by
  obtain ⟨z, h1, h2⟩ := h
  exact ⟨z, h1, by omega⟩
theorem Fr.add {E W W' : Nat} {x y : Rat} (h : Fr E W x) (k : Fr E W' y) : Fr E (W + W') (x + y) := by
  obtain ⟨z, h1, h2⟩ := h
  obtain ⟨u, k1, k2⟩ := k
  exact ⟨z + u, by rw [Rat.intCast_add, ← h1, ← k1]; grind, by omega⟩
theorem Fr.neg {E W : Nat} {x : Rat} (h : Fr E W x) : Fr E W (-x) := by
  obtain ⟨z, h1, h2⟩ := h
  exact ⟨-z, by rw [Rat.intCast_neg, ← h1]; grind, by omega⟩
theorem Fr.sub {E W W' : Nat} {x y : Rat} (h : Fr E W x) (k : Fr E W' y) : Fr E (W + W') (x - y) := by
  rw [Rat.sub_eq_add_neg]
  exact h.add k.neg
theorem Fr.mul {E F W W' : Nat} {x y : Rat} (h : Fr E W x) (k : Fr F W' y) : Fr (E * F) (W * W') (x * y) := by
  obtain ⟨z, h1, h2⟩ := h
  obtain ⟨u, k1, k2⟩ := k
  refine ⟨z * u, ?_, by rw [Int.natAbs_mul]; exact Nat.mul_le_mul h2 k2⟩
  have e : ((E * F : Nat) : Rat) = (E : Rat) * (F : Rat) := by
    rw [← Rat.intCast_natCast, ← Rat.intCast_natCast, ← Rat.intCast_natCast, Int.natCast_mul, Rat.intCast_mul]
  rw [e, Rat.intCast_mul, ← h1, ← k1]; grind
theorem Fr.rb {E W s : Nat} {x : Rat} (h : Fr E W x) (hE : 0 < E) (h1 : E ≤ 2 ^ s) (h2 : W ≤ 2 ^ s) (hs : s < SZ) : RB x := by
  obtain ⟨z, k1, k2⟩ := h
  exact rb_of k1 hE h1 (Nat.le_trans k2 h2) hs
theorem RB.neg {x : Rat} (h : RB x) : RB (-x) := by
  refine ⟨?_, ?_⟩
  · rw [Rat.neg_num, Int.natAbs_neg]; exact h.1
  · rw [Rat.neg_den]; exact h.2
theorem RB.zero : RB 0 := ⟨Nat.pow_pos (by decide), Nat.one_lt_two_pow (by decide)⟩
theorem RB.int {i : Int} (h : i.natAbs < 2 ^ SZ) : RB (i : Rat) := ⟨h, Nat.one_lt_two_pow (by decide)⟩
theorem RB.inv {x : Rat} (h : RB x) (h0 : x ≠ 0) : RB x⁻¹ := by
  have hn : x.num ≠ 0 := fun z => h0 (Rat.num_eq_zero.mp z)
  obtain ⟨c0, c1, c2⟩ := rat_c (x.den : Int) x.num hn
  rw [rat_inv_c x h0] at c1 c2
  have h1 : (x⁻¹).num.natAbs ≤ (x.den : Int).natAbs := by
    have e := congrArg Int.natAbs c1
    rw [Int.natAbs_mul] at e
    rw [e]
    exact Nat.le_mul_of_pos_right _ (by omega)
  have h2 : (x⁻¹).den ≤ x.num.natAbs := by
    have e := congrArg Int.natAbs c2
    rw [Int.natAbs_mul, Int.natAbs_natCast] at e
    rw [e]
    exact Nat.le_mul_of_pos_right _ (by omega)
  rw [Int.natAbs_natCast] at h1
  have := h.1
  have := h.2
  exact ⟨by omega, by omega⟩
/-- all coefficients over one divisor, all of at most s bits -/
def PZ (s : Nat) (p : Pol) : Prop := ∃ E : Nat, 0 < E ∧ E ≤ 2 ^ s ∧ ∀ i, Fr E (2 ^ s) (p.c i)
theorem Sm.pz {s n E : Nat} {p : Pol} (h : Sm s n E p) (h0 : 0 < E) (h1 : E ≤ 2 ^ s) : PZ s p := by
  obtain ⟨_, z, k1, k2⟩ := h
  exact ⟨E, h0, h1, fun i => ⟨z i, k1 i, k2 i⟩⟩
theorem PZ.mono {s t : Nat} {p : Pol} (h : PZ s p) (hst : s ≤ t) : PZ t p := by
  obtain ⟨E, h1, h2, h3⟩ := h
  have k : 2 ^ s ≤ 2 ^ t := Nat.pow_le_pow_right (by decide) hst
  exact ⟨E, h1, Nat.le_trans h2 k, fun i => (h3 i).mono k⟩
def PRB (p : Pol) : Prop := ∀ i, RB (p.c i)
theorem PZ.rb {s : Nat} {p : Pol} (h : PZ s p) (hs : s < SZ) : PRB p := fun i => by
  obtain ⟨E, h1, h2, h3⟩ := h
  exact (h3 i).rb h1 h2 (Nat.le_refl _) hs
theorem PRB.neg {p : Pol} (h : PRB p) : PRB (-p) := fun i => by rw [neg_c]; exact (h i).neg
/-! ### partial sums of a product -/
def S (f g : PS) : Nat → Nat → Rat
  | 0, _ => 0
  | i + 1, t => S f g i t + (if i ≤ t then f i * g (t - i) else 0)
theorem S_tl (f g : PS) : ∀ i t, i ≤ t + 1 → S f g i (t + 1) = S f (tl g) i t
  | 0, t, _ => rfl
  | i + 1, t, h => by
    rw [S, S, S_tl f g i t (by omega), if_pos (by omega), if_pos (by omega), show t + 1 - i = (t - i) + 1 by omega]; rfl
theorem S_full (f g : PS) : ∀ n, S f g (n + 1) n = pmul f g n := by
  intro n
  induction n generalizing g with
  | zero => rw [S, S, pmul_zero', if_pos (by omega)]; grind
  | succ n ih =>
    rw [S, S_tl f g (n + 1) n (by omega), ih, pmul_succ', if_pos (by omega), Nat.sub_self]
theorem S_ge (f g : PS) (t : Nat) : ∀ k, S f g (t + 1 + k) t = S f g (t + 1) t
  | 0 => rfl
  | k + 1 => by
    rw [← Nat.add_assoc, S, S_ge f g t k, if_neg (by omega)]; grind
theorem S_zero (f g : PS) (n t : Nat) (h : ∀ i, n ≤ i → f i = 0) : ∀ k, S f g (n + k) t = S f g n t
  | 0 => rfl
  | k + 1 => by
    rw [← Nat.add_assoc, S, S_zero f g n t h k]
    split
    · rw [h _ (by omega)]; grind
    · grind
theorem S_all (p q : Pol) (n t : Nat) (h : p.len ≤ n) : S p.c q.c n t = (p * q).c t := by
  rw [mul_c, ← S_full]
  have hz : ∀ i, p.len ≤ i → p.c i = 0 := fun i hi => Pol.c_ge hi
  have e1 := S_zero p.c q.c p.len t hz (n - p.len)
  rw [show p.len + (n - p.len) = n by omega] at e1
  rw [e1]
  rcases Nat.le_total p.len (t + 1) with h2 | h2
  · have e2 := S_zero p.c q.c p.len t hz (t + 1 - p.len)
    rw [show p.len + (t + 1 - p.len) = t + 1 by omega] at e2
    exact e2.symm
  · have e2 := S_ge p.c q.c t (p.len - (t + 1))
    rw [show t + 1 + (p.len - (t + 1)) = p.len by omega] at e2
    exact e2
/-- and of the i-th turn the first k -/
def S2 (f g : PS) (i k t : Nat) : Rat := S f g i t + (if i ≤ t ∧ t - i < k then f i * g (t - i) else 0)
theorem S2_zero (f g : PS) (i t : Nat) : S2 f g i 0 t = S f g i t := by
  unfold S2
  rw [if_neg (by omega)]; grind
theorem S2_full (f : PS) (q : Pol) (i t : Nat) : S2 f q.c i q.len t = S f q.c (i + 1) t := by
  unfold S2
  rw [S]
  by_cases h : i ≤ t
  · rw [if_pos h]
    by_cases h2 : t - i < q.len
    · rw [if_pos ⟨h, h2⟩]
    · rw [if_neg (fun z => h2 z.2), Pol.c_ge (p := q) (by omega)]; grind
  · rw [if_neg h, if_neg (fun z => h z.1)]
theorem S2_step (f g : PS) (i k t : Nat) : S2 f g i (k + 1) t = S2 f g i k t + (if t = i + k then f i * g k else 0) := by
  unfold S2
  by_cases h : t = i + k
  · subst h
    rw [if_pos ⟨by omega, by omega⟩, if_neg (by omega), if_pos rfl, show i + k - i = k by omega]; grind
  · rw [if_neg h]
    by_cases h1 : i ≤ t ∧ t - i < k
    · rw [if_pos h1, if_pos ⟨h1.1, by omega⟩]; grind
    · rw [if_neg h1, if_neg (by omega)]; grind
theorem S_fr {f g : PS} {E F A B : Nat} (hf : ∀ i, Fr E A (f i)) (hg : ∀ i, Fr F B (g i)) (t : Nat) : ∀ i, Fr (E * F) (i * (A * B)) (S f g i t)
  | 0 => by rw [S, Nat.zero_mul]; exact Fr.zero
  | i + 1 => by
    rw [S, Nat.add_mul, Nat.one_mul]
    refine (S_fr hf hg t i).add ?_
    split
    · exact (hf i).mul (hg _)
    · exact Fr.zero
theorem S2_fr {f g : PS} {E F A B : Nat} (hf : ∀ i, Fr E A (f i)) (hg : ∀ i, Fr F B (g i)) (i k t : Nat) : Fr (E * F) ((i + 1) * (A * B)) (S2 f g i k t) := by
  unfold S2
  rw [Nat.add_mul, Nat.one_mul]
  refine (S_fr hf hg t i).add ?_
  split
  · exact (hf i).mul (hg _)
  · exact Fr.zero
/-- what a product's walk needs of the sizes -/
structure MulOk (p q : Pol) : Prop where
  l : PRB p
  r : PRB q
  s : ∀ i k t, i ≤ p.len → RB (S2 p.c q.c i k t)
  m : ∀ i j, RB (p.c i * q.c j)
theorem PZ.mulOk {s t : Nat} {p q : Pol} (h : PZ s p) (k : PZ t q) (hl : p.len ≤ 1000) (hs : s + t + 10 < SZ) : MulOk p q := by
  obtain ⟨E, h1, h2, h3⟩ := id h
  obtain ⟨F, k1, k2, k3⟩ := id k
  have e0 : 0 < E * F := Nat.mul_pos h1 k1
  have e1 : 2 ^ s * 2 ^ t = 2 ^ (s + t) := (Nat.pow_add 2 s t).symm
  have e2 : E * F ≤ 2 ^ (s + t) := by rw [← e1]; exact Nat.mul_le_mul h2 k2
  have e3 : 2 ^ (s + t) ≤ 2 ^ (s + t + 10) := Nat.pow_le_pow_right (by decide) (by omega)
  have e4 : 2 ^ (s + t + 10) = 1024 * 2 ^ (s + t) := by rw [Nat.pow_add]; omega
  refine ⟨h.rb (by omega), k.rb (by omega), fun i kk tt hi => ?_, fun i j => ?_⟩
  · refine (S2_fr h3 k3 i kk tt).rb e0 (Nat.le_trans e2 e3) ?_ hs
    rw [e1, e4]
    exact Nat.mul_le_mul_right _ (by omega)
  · refine ((h3 i).mul (k3 j)).rb e0 (Nat.le_trans e2 e3) ?_ hs
    rw [e1]; exact e3
end K31
set_option Elab.async false
set_option linter.all false
set_option maxRecDepth 100000
set_option maxHeartbeats 2000000
/-! W4: Poly's simple methods. -/
namespace K31
open PySem PySem.Spec L2
theorem atP_vRs {K : PySem.W.Frag} {l : List Rat} {i : Nat} (h : i < (vRs K l).length) : atP (vRs K l) i = vR K (l.getD i 0) := by
  have h1 := atP_get h
  rw [vRs_get (by rw [← vRs_len (K := K)]; exact h)] at h1
  exact (Option.some.inj h1).symm
theorem range_vRs {K : PySem.W.Frag} {n : Nat} {f : Nat → Rat} : (List.range n).map (fun i => vR K (f i)) = vRs K ((List.range n).map f) := by
  unfold vRs
  rw [List.map_map]; rfl
section
variable {P : Program} {w : World} {K : PySem.W.Frag} {mg : Str → Option Value} {base : Heap}
theorem b1 {x qual : Str} {params : Arguments} {body : List Stmt} {scope : Scope} {f : Addr} {fd : FuncData} {a : Str} (F : FunD K x qual params body scope [] [] f fd)
    (h : ∀ (kV doc pm : Value) (an : Option Addr) (cdv ct u : Value), bindArgs (PySem.W.fnOf x qual params body scope .none kV doc pm an cdv ct) ⟨[u], []⟩ = pure [(a, u)] := by intros; rfl) : Binds K fd [a] [] :=
  F.bindsN fun kV doc pm an cdv ct us hl => match us, hl with | [_], _ => h kV doc pm an cdv ct _
theorem b2 {x qual : Str} {params : Arguments} {body : List Stmt} {scope : Scope} {f : Addr} {fd : FuncData} {a b : Str} (F : FunD K x qual params body scope [] [] f fd)
    (h : ∀ (kV doc pm : Value) (an : Option Addr) (cdv ct u v : Value), bindArgs (PySem.W.fnOf x qual params body scope .none kV doc pm an cdv ct) ⟨[u, v], []⟩ = pure [(a, u), (b, v)] := by intros; rfl) : Binds K fd [a, b] [] :=
  F.bindsN fun kV doc pm an cdv ct us hl => match us, hl with | [_, _], _ => h kV doc pm an cdv ct _ _
theorem b3 {x qual : Str} {params : Arguments} {body : List Stmt} {scope : Scope} {f : Addr} {fd : FuncData} {a b c : Str} (F : FunD K x qual params body scope [] [] f fd)
    (h : ∀ (kV doc pm : Value) (an : Option Addr) (cdv ct u v w : Value), bindArgs (PySem.W.fnOf x qual params body scope .none kV doc pm an cdv ct) ⟨[u, v, w], []⟩ = pure [(a, u), (b, v), (c, w)] := by intros; rfl) : Binds K fd [a, b, c] [] :=
  F.bindsN fun kV doc pm an cdv ct us hl => match us, hl with | [_, _, _], _ => h kV doc pm an cdv ct _ _ _
theorem b0 {x qual : Str} {params : Arguments} {body : List Stmt} {scope : Scope} {f : Addr} {fd : FuncData} (F : FunD K x qual params body scope [] [] f fd)
    (h : ∀ (kV doc pm : Value) (an : Option Addr) (cdv ct : Value), bindArgs (PySem.W.fnOf x qual params body scope .none kV doc pm an cdv ct) ⟨[], []⟩ = pure [] := by intros; rfl) : Binds K fd [] [] :=
  F.bindsN fun kV doc pm an cdv ct us hl => match us, hl with | [], _ => h kV doc pm an cdv ct
theorem zero_c' (V : Ev P K mg) : CalT P w K mg base 42 "zero" [] [] (vR K 0) := by
  obtain ⟨fd, F⟩ := V.W.fd_zero
  refine mk_cal (fn_V F sc_zero rfl fun cdv A outer s H E Q hr q => ?_) V.W.gl_zero F.kp (b0 F)
  exact s_retV (e_mk0 (R_mk1 V 0) (fun _ => ⟨rfl, trivial⟩) hr (by omega) rfl (a_cons e_int a_nil)) rfl q
theorem one_c' (V : Ev P K mg) : CalT P w K mg base 42 "one" [] [] (vR K 1) := by
  obtain ⟨fd, F⟩ := V.W.fd_one
  refine mk_cal (fn_V F sc_one rfl fun cdv A outer s H E Q hr q => ?_) V.W.gl_one F.kp (b0 F)
  exact s_retV (e_mk0 (R_mk1 V 1) (fun _ => ⟨rfl, trivial⟩) hr (by omega) rfl (a_cons e_int a_nil)) rfl q
theorem constant_c (V : Ev P K mg) (r : Rat) : CalT P w K mg base 44 "constant" [vR K r] [] (vP K (cst r)) := by
  obtain ⟨fd, F⟩ := V.W.fd_constant
  refine mk_cal (fn_V F sc_constant rfl fun cdv A outer s H E Q hr q => ?_) V.W.gl_constant F.kp (b1 F)
  exact s_retV (e_mk (P_mk V [r] (show (1 : Nat) ≤ 100000 by decide)) hr (by omega) rfl (a_cons (e_sqT (e_tup (a_cons (e_nm 0) a_nil) (show (1 : Nat) ≤ 100 by decide))) a_nil)) rfl q
theorem P_neg (V : Ev P K mg) (p : Pol) (hl : p.len ≤ 100000) : MetT P w K mg base 44 (He.ga K "Poly") "__neg__" [vP K p] [] (vP K (-p)) := by
  obtain ⟨fd, F⟩ := V.W.fd_P_neg
  refine mk_met V.W.cl_P V.W.me_P_neg (fn_V F sc_P_neg rfl fun cdv A outer s H E Q hr q => ?_) (b1 F)
  refine s_retV (e_mk (P_mk V ((List.range p.len).map fun i => -p.c i) (by rw [List.length_map, List.length_range]; exact hl)) hr (by omega) rfl (a_cons (e_sqL (e_eq (TyN.ty (n_lcG (own := [("c", 1)]) (vs := [1]) (Zp := fun i => vR K (-p.c i)) (pi_seq (e_sqT (e_fld (e_nm 0) V.W.cl_P V.W.na_P_row rfl))) (by rw [vRs_len]; exact hl) sc_P_neg.nd (blk0 (by decide +kernel)) rfl (gow_name 1) (fun _ _ _ _ _ => pg_name (i := 1) sc_P_neg.nd rfl (Or.inl rfl)) (fun s2 H2 C cl fp i hi => ?_))) ?_)) a_nil)) rfl q
  · exact e_un (e_eq (e_nm 1) (atP_vRs hi)) (u_own (R_neg V (p.c i)) hr (by omega))
  · rw [vRs_len, range_vRs]; rfl
theorem P_scaled (V : Ev P K mg) (p : Pol) (r : Rat) (hl : p.len ≤ 100000) (hp : PRB p) (hr2 : RB r) : MetT P w K mg base 44 (He.ga K "Poly") "scaled" [vP K p, vR K r] [] (vP K (cst r * p)) := by
  obtain ⟨fd, F⟩ := V.W.fd_P_scaled
  refine mk_met V.W.cl_P V.W.me_P_scaled (fn_V F sc_P_scaled rfl fun cdv A outer s H E Q hr q => ?_) (b2 F)
  refine s_retV (e_eq (e_mk (P_mk V ((List.range p.len).map fun i => r * p.c i) (by rw [List.length_map, List.length_range]; exact hl)) hr (by omega) rfl (a_cons (e_sqL (e_eq (TyN.ty (n_lcG (own := [("c", 2)]) (vs := [2]) (Zp := fun i => vR K (r * p.c i)) (pi_seq (e_sqT (e_fld (e_nm 0) V.W.cl_P V.W.na_P_row rfl))) (by rw [vRs_len]; exact hl) sc_P_scaled.nd (blk0 (by decide +kernel)) rfl (gow_name 2) (fun _ _ _ _ _ => pg_name (i := 2) sc_P_scaled.nd rfl (Or.inl rfl)) (fun s2 H2 C cl fp i hi => ?_))) ?_)) a_nil)) ?_) rfl q
  · exact e_bin (e_nm 1) (e_eq (e_nm 2) (atP_vRs hi)) (o_own (op := .Mult) (R_mul V r (p.c i) hr2 (hp i)) V.W.m.sR hr (by omega))
  · rw [vRs_len, range_vRs]; rfl
  · congr 1
    refine Pol.ext fun i => ?_
    show (ofFn p.len fun i => r * p.c i).c i = _
    rw [ofFn_c, cst_mul_c]
    split
    · rfl
    · rw [Pol.c_ge (p := p) (by omega)]; grind
theorem P_degree (V : Ev P K mg) (p : Pol) : MetT P w K mg base 1 (He.ga K "Poly") "degree" [vP K p] [] (vI ((p.len : Int) - 1)) := by
  obtain ⟨fd, F⟩ := V.W.fd_P_degree
  refine mk_met V.W.cl_P V.W.me_P_degree (fn_V F sc_P_degree rfl fun cdv A outer s H E Q hr q => ?_) (b1 F)
  exact s_retV (e_eq (e_bin (e_blt (c_len rfl) rfl V.W.fr_len PySem.boot_len (a_cons (e_sqT (e_fld (e_nm 0) V.W.cl_P V.W.na_P_row rfl)) a_nil)) e_int o_sub) (by rw [vRs_len]; rfl)) rfl q
theorem P_is_zero (V : Ev P K mg) (p : Pol) : MetT P w K mg base 1 (He.ga K "Poly") "is_zero" [vP K p] [] (vB (decide (p = 0))) := by
  obtain ⟨fd, F⟩ := V.W.fd_P_is_zero
  refine mk_met V.W.cl_P V.W.me_P_is_zero (fn_V F sc_P_is_zero rfl fun cdv A outer s H E Q hr q => ?_) (b1 F)
  refine s_retV (e_eq (e_cmp (e_blt (c_len rfl) rfl V.W.fr_len PySem.boot_len (a_cons (e_sqT (e_fld (e_nm 0) V.W.cl_P V.W.na_P_row rfl)) a_nil)) e_int o_eq) ?_) rfl q
  rw [vRs_len]
  congr 1
  refine decide_eq_decide.mpr ?_
  rw [← Pol.len_eq_zero]
  unfold Pol.len
  omega
theorem P_last (V : Ev P K mg) (p : Pol) (h : p ≠ 0) : MetT P w K mg base 1 (He.ga K "Poly") "last" [vP K p] [] (vR K p.lc) := by
  obtain ⟨fd, F⟩ := V.W.fd_P_last
  have hl : 0 < p.len := Pol.len_pos h
  have hl2 : 0 < p.l.length := hl
  refine mk_met V.W.cl_P V.W.me_P_last (fn_V F sc_P_last rfl fun cdv A outer s H E Q hr q => ?_) (b1 F)
  refine s_ifR (k := false) (t_eq (t_cmp (e_blt (c_len rfl) rfl V.W.fr_len PySem.boot_len (a_cons (e_sqT (e_fld (e_nm 0) V.W.cl_P V.W.na_P_row rfl)) a_nil)) e_int o_eq) (decide_eq_false (by rw [vRs_len]; omega))) (fun z => absurd z (by decide)) fun _ => ?_
  exact s_retV (e_ix (e_sqT (e_fld (e_nm 0) V.W.cl_P V.W.na_P_row rfl)) (e_eq (e_bin (e_blt (c_len rfl) rfl V.W.fr_len PySem.boot_len (a_cons (e_sqT (e_fld (e_nm 0) V.W.cl_P V.W.na_P_row rfl)) a_nil)) e_int o_sub) (by rw [vRs_len, sub1_cast hl2]; rfl)) (vRs_get (show p.len - 1 < p.l.length by unfold Pol.len; omega))) rfl q
theorem vR_inj {q r : Rat} {v : V} {H : Hp} (h : (vR K q).p v H) (k : (vR K r).p v H) : q = r := by
  obtain ⟨a, dx, gs, rfl, e, f⟩ := h
  obtain ⟨b, dy, gs2, e2, e3, f2⟩ := k
  cases e2
  rw [e] at e3
  cases e3
  match gs, f, f2 with
  | [(_, x), (_, y)], f, f2 =>
    have a1 : x = .int q.num := f.2.1
    have a2 : x = .int r.num := f2.2.1
    have b1 : y = .int (q.den : Int) := f.2.2.2.1
    have b2 : y = .int (r.den : Int) := f2.2.2.2.1
    rw [a1] at a2
    rw [b1] at b2
    injection a2 with a2
    injection b2 with b2
    exact Rat.ext a2 (by omega)
theorem vRs_inj : ∀ {l m : List Rat} {xs : List V} {H : Hp}, Items (vRs K l) xs H → Items (vRs K m) xs H → l = m
  | [], [], _, _, _, _ => rfl
  | a :: l, b :: m, x :: xs, H, h, k => by rw [vR_inj h.1 k.1, vRs_inj h.2 k.2]
  | [], _ :: _, [], _, _, k => k.elim
  | [], _ :: _, _ :: _, _, h, _ => h.elim
  | _ :: _, [], [], _, h, _ => h.elim
  | _ :: _, [], _ :: _, _, _, k => k.elim
  | _ :: _, _ :: _, [], _, h, _ => h.elim
theorem vP_inj {p q : Pol} {v : V} {H : Hp} (h : (vP K p).p v H) (k : (vP K q).p v H) : p = q := by
  obtain ⟨a, dx, gs, rfl, e, f⟩ := h
  obtain ⟨b, dy, gs2, e2, e3, f2⟩ := k
  cases e2
  rw [e] at e3
  cases e3
  match gs, f, f2 with
  | [(_, x)], f, f2 =>
    obtain ⟨t, xs, e1, e4, i1⟩ := f.2.1
    obtain ⟨t2, xs2, e5, e6, i2⟩ := f2.2.1
    rw [e1] at e5
    cases e5
    rw [e4] at e6
    cases e6
    exact Pol.eq_of (vRs_inj i1 i2)
theorem P_eq (V : Ev P K mg) (p q : Pol) : MetT P w K mg base 44 (He.ga K "Poly") "__eq__" [vP K p, vP K q] [] (vB (decide (p = q))) := by
  obtain ⟨fd, F⟩ := V.W.fd_P_eq
  refine mk_met V.W.cl_P V.W.me_P_eq (fn_V F sc_P_eq rfl fun cdv A outer s H E Q hr q' => ?_) (b2 F)
  refine s_retV (e_eq (e_and (j := true) (e_blt (c_isO V.W.cl_P V.W.m.iP V.W.m.hn V.W.m.htk) rfl V.W.fr_isinstance PyProof.Rows.boot_isinstance (a_cons (e_nm 1) (a_cons (e_cls rfl V.W.gc_Poly) a_nil))) fun _ => e_one (e_cmp (e_fld (e_nm 0) V.W.cl_P V.W.na_P_row rfl) (e_fld (e_nm 1) V.W.cl_P V.W.na_P_row rfl) (o_eqTu (k := 42) p.l q.l (fun x y _ _ => R_eq V x y) (fun x y v H h k => vR_inj (K := K) h k) hr (by omega)))) ?_) rfl q'
  congr 1
  rw [Bool.true_and]
  refine decide_eq_decide.mpr ⟨Pol.eq_of, fun h => by rw [h]⟩
end
end K31
set_option Elab.async false
set_option linter.all false
set_option maxRecDepth 100000
set_option maxHeartbeats 2000000
/-! W5: Poly: +, -, derivative. -/
namespace K31
open PySem PySem.Spec L2
theorem vRs_app {K : PySem.W.Frag} (l m : List Rat) : vRs K (l ++ m) = vRs K l ++ vRs K m := List.map_append
theorem vRs_drop {K : PySem.W.Frag} (l : List Rat) (k : Nat) : vRs K (l.drop k) = (vRs K l).drop k := List.map_drop
/-- the rows added, the longer first -/
def addL (L Sh : List Rat) : List Rat := (List.range Sh.length).map (fun i => L.getD i 0 + Sh.getD i 0) ++ L.drop Sh.length
theorem addL_get (L Sh : List Rat) (h : Sh.length ≤ L.length) (i : Nat) : (addL L Sh).getD i 0 = L.getD i 0 + Sh.getD i 0 := by
  unfold addL
  rw [List.getD_eq_getElem?_getD]
  by_cases hi : i < Sh.length
  · rw [List.getElem?_append_left (by simpa using hi), List.getElem?_map, List.getElem?_range hi]; rfl
  · rw [List.getElem?_append_right (by simpa using Nat.le_of_not_lt hi), List.length_map, List.length_range, List.getElem?_drop, show Sh.length + (i - Sh.length) = i by omega, List.getD_eq_getElem?_getD, List.getD_eq_getElem?_getD, List.getElem?_eq_none (l := Sh) (by omega)]
    show _ = _ + (0 : Rat)
    grind
section
variable {P : Program} {w : World} {K : PySem.W.Frag} {mg : Str → Option Value} {base : Heap}
theorem P_add (V : Ev P K mg) (p q : Pol) (hp : PRB p) (hq : PRB q) (hl : p.len ≤ 50000) (hl2 : q.len ≤ 50000) : MetT P w K mg base 44 (He.ga K "Poly") "__add__" [vP K p, vP K q] [] (vP K (p + q)) := by
  obtain ⟨fd, F⟩ := V.W.fd_P_add
  refine mk_met V.W.cl_P V.W.me_P_add (fn_V F sc_P_add rfl fun cdv A outer s H E Q hr q' => ?_) (b2 F)
  have hl1' : p.l.length ≤ 50000 := hl
  have hl2' : q.l.length ≤ 50000 := hl2
  have fin : ∀ (L Sh : List Rat) (D : Ends), D.rt = Q → L.length ≤ 50000 → Sh.length ≤ L.length → (∀ i, RB (L.getD i 0)) → (∀ i, RB (Sh.getD i 0)) → (∀ i, L.getD i 0 + Sh.getD i 0 = (p + q).c i) →
      SOk (cx0 P w K mg base N_P_add "Poly.__add__" (defScope st_P_add) (He.fAd K ("Poly", some "__add__")) cdv A outer s H E) ((defBody st_P_add).drop 2) H [some (vP K p), some (vP K q), some (vTu (vRs K L)), some (vTu (vRs K Sh)), none, none, none] [] D := by
    intro L Sh D hD h1 h2 rL rS hs
    refine s_lcG 4 (own := [("a", 5), ("b", 6)]) (vs := [5, 6]) (Zp := fun i => vR K (L.getD i 0 + Sh.getD i 0)) (p_zipT (e_nm 2) (e_nm 3) rfl V.W.fr_zip) (by rw [vRs_len, vRs_len]; omega) sc_P_add.nd (blk0 (by decide +kernel)) rfl (gow_pair (K := K) 5 6 (by decide)) (fun _ _ _ _ _ => pg_tup rfl (pgs_cons (pg_name (i := 5) sc_P_add.nd rfl (Or.inl rfl)) (pgs_cons (pg_name (i := 6) sc_P_add.nd rfl (Or.inl rfl)) pgs_nil))) (fun s2 H2 C cl fp i hi => ?_) (fun ad => ?_)
    · have k1 : i < (vRs K L).length := by omega
      have k2 : i < (vRs K Sh).length := by omega
      exact e_bin (e_eq (e_nm 5) (atP_vRs k1)) (e_eq (e_nm 6) (atP_vRs k2)) (o_own (op := .Add) (R_add V (L.getD i 0) (Sh.getD i 0) (rL i) (rS i)) V.W.m.sR hr (by omega))
    · refine s_calm 4 rfl ?_
      have e1 : (List.range (min (vRs K L).length (vRs K Sh).length)).map (fun i => vR K (L.getD i 0 + Sh.getD i 0)) = vRs K ((List.range Sh.length).map fun i => L.getD i 0 + Sh.getD i 0) := by
        rw [vRs_len, vRs_len, Nat.min_eq_right h2, range_vRs]
      rw [e1]
      refine s_retV (e_eq (e_mk (P_mk V (addL L Sh) (by unfold addL; simp; omega)) hr (by omega) rfl (a_cons (e_sqL (e_eq (e_bin (e_nm 4) (e_bty c_list rfl V.W.fr_list PyProof.Rows.boot_list (a_cons (e_sqT (e_slT2 (e_nm 2) (e_blt (c_len rfl) rfl V.W.fr_len PySem.boot_len (a_cons (e_sqT (e_nm 3)) a_nil)))) a_nil)) (o_catL ?_)) ?_)) a_nil)) ?_) hD q'
      · rw [vRs_len, List.length_drop, vRs_len, vRs_len, List.length_map, List.length_range]; omega
      · unfold addL
        rw [vRs_app, vRs_drop, vRs_len]
      · congr 1
        exact Pol.ext fun i => by rw [ofList_c, addL_get _ _ h2, hs]
  refine s_par 2 3 (e_fld (e_nm 0) V.W.cl_P V.W.na_P_row rfl) (e_fld (e_nm 1) V.W.cl_P V.W.na_P_row rfl) ?_ sc_P_add.nd
  refine s_if (k := decide (((vRs K p.l).length : Int) < ((vRs K q.l).length : Int))) (t_cmp (e_blt (c_len rfl) rfl V.W.fr_len PySem.boot_len (a_cons (e_sqT (e_nm 2)) a_nil)) (e_blt (c_len rfl) rfl V.W.fr_len PySem.boot_len (a_cons (e_sqT (e_nm 3)) a_nil)) o_lt) (fun h => ?_) fun h => ?_
  · have hlt := of_decide_eq_true h
    rw [vRs_len, vRs_len] at hlt
    refine s_par 2 3 (e_nm 3) (e_nm 2) ?_ sc_P_add.nd
    refine s_end (fin q.l p.l _ rfl hl2' (by omega) hq hp fun i => ?_) rfl
    rw [add_c]
    show q.c i + p.c i = _
    grind
  · have hlt := of_decide_eq_false h
    rw [vRs_len, vRs_len] at hlt
    refine s_end (fin p.l q.l _ rfl hl1' (by omega) hp hq fun i => ?_) rfl
    rw [add_c]; rfl
theorem P_sub (V : Ev P K mg) (p q : Pol) (hp : PRB p) (hq : PRB q) (hl : p.len ≤ 50000) (hl2 : q.len ≤ 50000) : MetT P w K mg base 46 (He.ga K "Poly") "__sub__" [vP K p, vP K q] [] (vP K (p - q)) := by
  obtain ⟨fd, F⟩ := V.W.fd_P_sub
  refine mk_met V.W.cl_P V.W.me_P_sub (fn_V F sc_P_sub rfl fun cdv A outer s H E Q hr q' => ?_) (b2 F)
  refine s_retV (e_eq (e_bin (e_nm 0) (e_un (e_nm 1) (u_own (P_neg V q (by omega)) hr (by omega))) (o_own (op := .Add) (P_add V p (-q) hp hq.neg hl (by rw [neg_len]; exact hl2)) V.W.m.sP hr (by omega))) ?_) rfl q'
  congr 1
  grind
theorem P_derivative (V : Ev P K mg) (p : Pol) (hp : PRB p) (hl : p.len ≤ 100000) : MetT P w K mg base 44 (He.ga K "Poly") "derivative" [vP K p] [] (vP K p.D) := by
  obtain ⟨fd, F⟩ := V.W.fd_P_derivative
  have hl' : p.l.length ≤ 100000 := hl
  refine mk_met V.W.cl_P V.W.me_P_derivative (fn_V F sc_P_derivative rfl fun cdv A outer s H E Q hr q => ?_) (b1 F)
  refine s_retV (e_eq (e_mk (P_mk V ((List.range (p.len - 1)).map fun (i : Nat) => ((1 + (i : Int) : Int) : Rat) * p.c (i + 1)) (by rw [List.length_map, List.length_range]; omega)) hr (by omega) rfl (a_cons (e_sqL (e_eq (TyN.ty (n_lcG (own := [("k", 1)]) (vs := [1]) (Zp := fun i => vR K (((1 + (i : Int) : Int) : Rat) * p.c (i + 1))) (p_range2 (e_int (i := 1)) (e_blt (c_len rfl) rfl V.W.fr_len PySem.boot_len (a_cons (e_sqT (e_fld (e_nm 0) V.W.cl_P V.W.na_P_row rfl)) a_nil)) (by rw [vRs_len]; omega) rfl V.W.fr_range) (by rw [vRs_len]; omega) sc_P_derivative.nd (blk0 (by decide +kernel)) rfl (gow_name 1) (fun _ _ _ _ _ => pg_name (i := 1) sc_P_derivative.nd rfl (Or.inl rfl)) (fun s2 H2 C cl fp i hi => ?_))) ?_)) a_nil)) ?_) rfl q
  · rw [vRs_len] at hi
    have hi2 : i + 1 < p.l.length := by omega
    refine e_bin (e_mk0 (R_mk1 V (1 + (i : Int))) (fun _ => ⟨rfl, trivial⟩) hr (by omega) rfl (a_cons (e_nm 1) a_nil)) (e_ix (e_sqT (e_fld (e_nm 0) V.W.cl_P V.W.na_P_row rfl)) (e_eq (e_nm (P := vI (1 + (i : Int))) 1) (by congr 1; omega)) (vRs_get hi2)) (o_own (op := .Mult) (R_mul V _ _ (RB.int ?_) (hp (i + 1))) V.W.m.sR hr (by omega))
    have : 2 ^ 20 < 2 ^ SZ := Nat.pow_lt_pow_right (by decide) (by decide)
    omega
  · rw [vRs_len]
    have e : (((p.l.length : Nat) : Int) - 1).toNat = p.len - 1 := by unfold Pol.len; omega
    rw [e, range_vRs]
  · congr 1
    refine Pol.ext fun i => ?_
    show (ofFn (p.len - 1) fun (i : Nat) => ((1 + (i : Int) : Int) : Rat) * p.c (i + 1)).c i = _
    rw [ofFn_c, D_c]
    split
    · congr 1
      rw [← Rat.intCast_natCast]
      congr 1
      omega
    · rw [Pol.c_ge (p := p) (by omega)]; grind
end
end K31
set_option Elab.async false
set_option linter.all false
set_option maxRecDepth 100000
set_option maxHeartbeats 2000000
/-! W6: Poly: *. -/
namespace K31
open PySem PySem.Spec L2
theorem row_set {K : PySem.W.Frag} {n : Nat} {f g : Nat → Rat} {i : Nat} {x : Rat} (h : ∀ t, t < n → g t = if t = i then x else f t) : (vRs K ((List.range n).map f)).set i (vR K x) = vRs K ((List.range n).map g) := by
  unfold vRs
  apply List.ext_getElem?
  intro t
  rw [List.getElem?_set, List.getElem?_map, List.getElem?_map, List.getElem?_map, List.getElem?_map]
  by_cases ht : t < n
  · rw [List.getElem?_range ht]
    by_cases e : i = t
    · subst e
      rw [if_pos rfl, if_pos (by simpa using ht)]
      show some _ = some (vR K (g i))
      rw [h i ht, if_pos rfl]
    · rw [if_neg e]
      show some (vR K (f t)) = some (vR K (g t))
      rw [h t ht, if_neg (fun z => e z.symm)]
  · rw [List.getElem?_eq_none (by rw [List.length_range]; omega)]
    by_cases e : i = t
    · rw [if_pos e, if_neg (by simp; omega)]; rfl
    · rw [if_neg e]; rfl
theorem row_get {K : PySem.W.Frag} {n : Nat} {f : Nat → Rat} {i : Nat} (hi : i < n) : (vRs K ((List.range n).map f))[i]? = some (vR K (f i)) := by
  unfold vRs
  rw [List.getElem?_map, List.getElem?_map, List.getElem?_range hi]; rfl
theorem row_len {K : PySem.W.Frag} {n : Nat} {f : Nat → Rat} : (vRs K ((List.range n).map f)).length = n := by rw [vRs_len, List.length_map, List.length_range]
theorem row_congr {K : PySem.W.Frag} {n : Nat} {f g : Nat → Rat} (h : ∀ t, f t = g t) : vRs K ((List.range n).map f) = vRs K ((List.range n).map g) := by rw [show f = g from funext h]
theorem nx_ok2 {X : Cx} {I : Type} {Hb Hb2 : Hp} {Good : I → Prop} {Gf : I → Ctx} {Mf : I → MCtx} {G : Ctx} {M : MCtx} {D : Ends} (sb : Same Hb Hb2) (i : I) (hi : Good i) (hD : D.nx = Nx Hb Good Gf Mf) (hs : SubC (Gf i) G) (hm : M = Mf i) : SOk X [] Hb2 G M D :=
  s_nil fun t Hf H s o m => by rw [hD]; exact ⟨i, Hf, hi, sb.trans s, o.sub hs, hm ▸ m⟩
theorem ct_ok2 {X : Cx} {I : Type} {Hb Hb2 : Hp} {Good : I → Prop} {Gf : I → Ctx} {Mf : I → MCtx} {G : Ctx} {M : MCtx} {D : Ends} {pos : Pos} {rest : List Stmt} (sb : Same Hb Hb2) (i : I) (hi : Good i) (hD : D.ct = Nx Hb Good Gf Mf) (hs : SubC (Gf i) G) (hm : M = Mf i) : SOk X (.Continue pos :: rest) Hb2 G M D :=
  s_cont fun t Hf H s o m => by rw [hD]; exact ⟨i, Hf, hi, sb.trans s, o.sub hs, hm ▸ m⟩
theorem pit_n {X : Cx} {tg iter : Expr} {G : Ctx} {M : MCtx} {n n' : Nat} {Yp : Nat → VP} (h : PIt X tg iter G M n Yp) (e : n = n') : PIt X tg iter G M n' Yp := e ▸ h
section
variable {P : Program} {w : World} {K : PySem.W.Frag} {mg : Str → Option Value} {base : Heap}
theorem P_mul (V : Ev P K mg) (p q : Pol) (hm : MulOk p q) (hl : p.len ≤ 50000) (hl2 : q.len ≤ 50000) : MetT P w K mg base 44 (He.ga K "Poly") "__mul__" [vP K p, vP K q] [] (vP K (p * q)) := by
  obtain ⟨fd, F⟩ := V.W.fd_P_mul
  have hl' : p.l.length ≤ 50000 := hl
  have hl2' : q.l.length ≤ 50000 := hl2
  refine mk_met V.W.cl_P V.W.me_P_mul (fn_V F sc_P_mul rfl fun cdv A outer s H E Q hr q' => ?_) (b2 F)
  have nd := sc_P_mul.nd
  refine s_lcG 2 (own := [("_", 7)]) (vs := [7]) (n := p.len + q.len) (Yp := fun l => vI (0 + (l : Nat))) (Zp := fun _ => vR K 0) (pit_n (p_range1 (i := ((p.l.length : Nat) : Int) + ((q.l.length : Nat) : Int)) (e_bin (e_eq (e_blt (c_len rfl) rfl V.W.fr_len PySem.boot_len (a_cons (e_sqT (e_fld (e_nm 0) V.W.cl_P V.W.na_P_row rfl)) a_nil)) (by rw [vRs_len])) (e_eq (e_blt (c_len rfl) rfl V.W.fr_len PySem.boot_len (a_cons (e_sqT (e_fld (e_nm 1) V.W.cl_P V.W.na_P_row rfl)) a_nil)) (by rw [vRs_len])) o_add) (by omega) (by omega) rfl V.W.fr_range) (by unfold Pol.len; omega)) (by omega) nd (blk0 (by decide +kernel)) rfl (gow_name 7) (fun _ _ _ _ _ => pg_name (i := 7) nd rfl (Or.inl rfl)) (fun s2 H2 C cl fp i hi => e_mk0 (R_mk1 V 0) (fun _ => ⟨rfl, trivial⟩) hr (by omega) rfl (a_cons e_int a_nil)) (fun ad => ?_)
  have e0 : (List.range (p.len + q.len)).map (fun _ => vR K 0) = vRs K ((List.range (p.len + q.len)).map (S p.c q.c 0)) := by rw [← range_vRs]; rfl
  rw [e0]
  refine s_for (I := Unit) (p_enum (e_sqT (e_fld (e_nm 0) V.W.cl_P V.W.na_P_row rfl)) rfl V.W.fr_enumerate) (pg_tup rfl (pgs_cons (pg_name (i := 3) nd rfl (Or.inl rfl)) (pgs_cons (pg_name (i := 4) nd rfl (Or.inl rfl)) pgs_nil))) (fun i G => setN G [3, 4] [vI ((i : Nat) : Int), atP (vRs K p.l) i]) (go_tup [3, 4] (fun _ => rfl))
    (fun _ _ => True) (fun _ _ => [some (vP K p), some (vP K q), some (vAt ad), none, none, none, none, none]) (fun i _ => [.l ad (vRs K ((List.range (p.len + q.len)).map (S p.c q.c i)))]) () trivial ⟨rfl, rfl, rfl, trivial⟩ rfl (fun Hb k _ sm hk _ => ?_) (fun Hb _ sm _ => ?_) .never
  · rw [vRs_len] at hk
    have hk' : k < (vRs K p.l).length := by rw [vRs_len]; exact hk
    rw [atP_vRs hk']
    have hkl : k < p.len := hk
    refine s_ifR (k := decide ((p.c k).num = 0)) (t_cmp (e_fld (e_nm (P := vR K (p.c k)) 4) V.W.cl_R V.W.na_R_n rfl) e_int o_eq) (fun h => ?_) (fun _ => ?_)
    · refine ct_ok () trivial rfl ⟨rfl, rfl, rfl, trivial⟩ ?_
      have hz : p.c k = 0 := Rat.num_eq_zero.mp (of_decide_eq_true h)
      have : S p.c q.c (k + 1) = S p.c q.c k := by
        funext t
        rw [S, hz]
        split <;> grind
      show [MT.l ad _] = [MT.l ad _]
      rw [this]
    · refine s_for (I := Unit) (p_enum (e_sqT (e_fld (e_nm 1) V.W.cl_P V.W.na_P_row rfl)) rfl V.W.fr_enumerate) (pg_tup rfl (pgs_cons (pg_name (i := 5) nd rfl (Or.inl rfl)) (pgs_cons (pg_name (i := 6) nd rfl (Or.inl rfl)) pgs_nil))) (fun i G => setN G [5, 6] [vI ((i : Nat) : Int), atP (vRs K q.l) i]) (go_tup [5, 6] (fun _ => rfl))
        (fun _ _ => True) (fun _ _ => [some (vP K p), some (vP K q), some (vAt ad), some (vI ((k : Nat) : Int)), some (vR K (p.c k)), none, none, none]) (fun j _ => [.l ad (vRs K ((List.range (p.len + q.len)).map (S2 p.c q.c k j)))]) () trivial ⟨rfl, rfl, rfl, rfl, rfl, trivial⟩ (by
          show [MT.l ad _] = [MT.l ad _]
          rw [row_congr fun t => S2_zero p.c q.c k t]) (fun Hb2 j _ sm2 hj _ => ?_) (fun Hb2 _ sm2 _ => ?_) .never
      · rw [vRs_len] at hj
        have hj' : j < (vRs K q.l).length := by rw [vRs_len]; exact hj
        rw [atP_vRs hj']
        have hjl : j < q.len := hj
        refine s_if (k := !decide ((q.c j).num = 0)) (t_cmp (e_fld (e_nm (P := vR K (q.c j)) 6) V.W.cl_R V.W.na_R_n rfl) e_int o_ne) (fun h => ?_) (fun h => ?_)
        · refine s_setL 0 (i := k + j) rfl (e_bin (e_ixM 0 (i := k + j) rfl (e_nm 2) (e_eq (e_bin (e_nm (P := vI ((k : Nat) : Int)) 3) (e_nm (P := vI ((j : Nat) : Int)) 5) o_add) (by congr 1)) (row_get (by omega))) (e_bin (e_nm 4) (e_nm 6) (o_own (op := .Mult) (R_mul V (p.c k) (q.c j) (hm.l k) (hm.r j)) V.W.m.sR hr (by omega))) (o_own (op := .Add) (R_add V _ _ (hm.s k j (k + j) (by omega)) (hm.m k j)) V.W.m.sR hr (by omega))) (e_nm 2) (e_eq (e_bin (e_nm (P := vI ((k : Nat) : Int)) 3) (e_nm (P := vI ((j : Nat) : Int)) 5) o_add) (by congr 1)) (by rw [row_len]; omega) ?_
          refine s_end ?_ rfl
          refine nx_ok () trivial rfl ⟨rfl, rfl, rfl, rfl, rfl, trivial⟩ ?_
          show [MT.l ad _] = [MT.l ad _]
          rw [row_set (g := S2 p.c q.c k (j + 1)) fun t ht => ?_]
          rw [S2_step]
          by_cases e : t = k + j
          · subst e; rw [if_pos rfl, if_pos rfl]
          · rw [if_neg e, if_neg e]; grind
        · refine s_end ?_ rfl
          refine nx_ok () trivial rfl ⟨rfl, rfl, rfl, rfl, rfl, trivial⟩ ?_
          have hz : q.c j = 0 := by
            have := h
            simp at this
            exact this
          show [MT.l ad _] = [MT.l ad _]
          rw [row_congr fun t => ?_]
          rw [S2_step, hz]
          split <;> grind
      · refine nx_ok2 sm2 () trivial rfl ⟨rfl, rfl, rfl, trivial⟩ ?_
        show [MT.l ad _] = [MT.l ad _]
        rw [vRs_len]
        rw [show q.l.length = q.len from rfl, row_congr fun t => S2_full p.c q k t]
  · refine s_calm 2 rfl ?_
    refine s_retV (e_eq (e_mk (P_mk V ((List.range (p.len + q.len)).map (S p.c q.c p.len)) (by rw [List.length_map, List.length_range]; omega)) hr (by omega) rfl (a_cons (e_sqL (e_eq (e_nm 2) (by rw [vRs_len]; rfl))) a_nil)) ?_) rfl fun v H' s' pv => q' v H' (sm.trans s') pv
    congr 1
    refine Pol.ext fun i => ?_
    show (ofFn (p.len + q.len) (S p.c q.c p.len)).c i = _
    rw [ofFn_c, S_all p q _ _ (Nat.le_refl _)]
    split
    · rfl
    · rw [Pol.c_ge]
      have := mul_len_le p q
      omega
end
end K31
set_option Elab.async false
set_option linter.all false
set_option maxRecDepth 100000
set_option maxHeartbeats 2000000
/-! W7: Poly: an exact division. -/
namespace K31
open PySem PySem.Spec L2
theorem S_top (f : PS) (q : Pol) (hq : 0 < q.len) (t : Nat) : ∀ k, k + q.len - 1 ≤ t → S f q.c k t = 0
  | 0, _ => rfl
  | k + 1, h => by
    rw [S, S_top f q hq t k (by omega)]
    split
    · rw [Pol.c_ge (p := q) (by omega)]; grind
    · grind
theorem S_lead (f : PS) (q : Pol) (hq : 0 < q.len) (k : Nat) : S f q.c (k + 1) (k + q.len - 1) = f k * q.lc := by
  rw [S, S_top f q hq _ k (Nat.le_refl _), if_pos (by omega), show k + q.len - 1 - k = q.len - 1 by omega]
  show 0 + f k * q.lc = _
  grind
/-- the k-th turn's subtrahend from its j-th item on -/
def T2 (f g : PS) (k j t : Nat) : Rat := S f g k t + (if k ≤ t ∧ j ≤ t - k then f k * g (t - k) else 0)
theorem T2_zero (f g : PS) (k t : Nat) : T2 f g k 0 t = S f g (k + 1) t := by
  unfold T2
  rw [S]
  by_cases h : k ≤ t
  · rw [if_pos ⟨h, Nat.zero_le _⟩, if_pos h]
  · rw [if_neg (fun z => h z.1), if_neg h]
theorem T2_full (f : PS) (q : Pol) (k t : Nat) : T2 f q.c k q.len t = S f q.c k t := by
  unfold T2
  split
  · rename_i h
    rw [Pol.c_ge (p := q) h.2]; grind
  · grind
theorem T2_step (f g : PS) (k j t : Nat) : T2 f g k (j + 1) t = T2 f g k j t - (if t = k + j then f k * g j else 0) := by
  unfold T2
  by_cases h : t = k + j
  · subst h
    rw [if_neg (by omega), if_pos ⟨by omega, by omega⟩, if_pos rfl, show k + j - k = j by omega]; grind
  · rw [if_neg h]
    by_cases h1 : k ≤ t ∧ j ≤ t - k
    · rw [if_pos h1, if_pos ⟨h1.1, by omega⟩]; grind
    · rw [if_neg h1, if_neg (by omega)]; grind
theorem T2_fr {f g : PS} {E F A B : Nat} (hf : ∀ i, Fr E A (f i)) (hg : ∀ i, Fr F B (g i)) (k j t : Nat) : Fr (E * F) ((k + 1) * (A * B)) (T2 f g k j t) := by
  unfold T2
  rw [Nat.add_mul, Nat.one_mul]
  refine (S_fr hf hg t k).add ?_
  split
  · exact (hf k).mul (hg _)
  · exact Fr.zero
structure DivW (Q m : Pol) : Prop where
  ql : PRB Q
  ml : PRB m
  tl : ∀ k j t, k < Q.len → RB (T2 Q.c m.c k j t)
  pl : ∀ i j, RB (Q.c i * m.c j)
theorem PZ.divW {s t : Nat} {p q : Pol} (h : PZ s p) (k : PZ t q) (hl : p.len ≤ 1000) (hs : s + t + 10 < SZ) : DivW p q := by
  obtain ⟨E, h1, h2, h3⟩ := id h
  obtain ⟨F, k1, k2, k3⟩ := id k
  have e0 : 0 < E * F := Nat.mul_pos h1 k1
  have e1 : 2 ^ s * 2 ^ t = 2 ^ (s + t) := (Nat.pow_add 2 s t).symm
  have e2 : E * F ≤ 2 ^ (s + t) := by rw [← e1]; exact Nat.mul_le_mul h2 k2
  have e3 : 2 ^ (s + t) ≤ 2 ^ (s + t + 10) := Nat.pow_le_pow_right (by decide) (by omega)
  have e4 : 2 ^ (s + t + 10) = 1024 * 2 ^ (s + t) := by rw [Nat.pow_add]; omega
  refine ⟨h.rb (by omega), k.rb (by omega), fun i kk tt hi => ?_, fun i j => ?_⟩
  · refine (T2_fr h3 k3 i kk tt).rb e0 (Nat.le_trans e2 e3) ?_ hs
    rw [e1, e4]
    exact Nat.mul_le_mul_right _ (by omega)
  · refine ((h3 i).mul (k3 j)).rb e0 (Nat.le_trans e2 e3) ?_ hs
    rw [e1]; exact e3
theorem quo_len {Q m : Pol} (hm : m ≠ 0) : (if (((Q * m).len : Int) - (m.len : Int) + 1) > 0 then ((Q * m).len : Int) - (m.len : Int) + 1 else 0) = (Q.len : Int) := by
  have h := Pol.len_pos hm
  by_cases hq : Q = 0
  · subst hq
    have e : (0 : Pol) * m = 0 := by grind
    rw [e, len_zero]
    split <;> omega
  · have h1 := mul_len hq hm
    have h2 := Pol.len_pos hq
    rw [h1]
    split <;> omega
section
variable {P : Program} {w : World} {K : PySem.W.Frag} {mg : Str → Option Value} {base : Heap}
theorem P_divided (V : Ev P K mg) (Qo m : Pol) (hm : m ≠ 0) (hd : DivW Qo m) (hl : (Qo * m).len ≤ 50000) (hl2 : m.len ≤ 50000) (hl3 : Qo.len ≤ 50000) : MetT P w K mg base 44 (He.ga K "Poly") "divided" [vP K (Qo * m), vP K m] [] (vTu [vP K Qo, vP K 0]) := by
  obtain ⟨fd, F⟩ := V.W.fd_P_divided
  have nd := sc_P_divided.nd
  have hml := Pol.len_pos hm
  generalize hp : Qo * m = p at hl ⊢
  refine mk_met V.W.cl_P V.W.me_P_divided (fn_V F sc_P_divided rfl fun cdv A outer s H E Q hr q' => ?_) (b2 F)
  have hlc : m.lc ≠ 0 := Pol.lc_ne hm
  have hrow : vRs K p.l = vRs K ((List.range p.len).map (S Qo.c m.c Qo.len)) := by
    congr 1
    apply List.ext_getElem?
    intro i
    rw [List.getElem?_map]
    by_cases hi : i < p.l.length
    · rw [List.getElem?_range (show i < p.len from hi)]
      show _ = some (S Qo.c m.c Qo.len i)
      rw [S_all Qo m _ _ (Nat.le_refl _), hp]
      show _ = some (p.l.getD i 0)
      rw [List.getD_eq_getElem?_getD, List.getElem?_eq_getElem hi]; rfl
    · rw [List.getElem?_eq_none (by omega), List.getElem?_eq_none (by rw [List.length_range]; exact Nat.le_of_not_lt hi)]; rfl
  refine s_asg 2 (P := vR K m.lc⁻¹) (e_mth0 (ks := ["n", "d"]) (R_inverse V m.lc hlc) rfl (by decide) hr (by omega) (e_mth0 (ks := ["row"]) (P_last V m hm) rfl (by decide) hr (by omega) (e_nm 1))) ?_ nd
  refine s_asgN 3 (n_list (e_sqT (e_fld (e_nm 0) V.W.cl_P V.W.na_P_row rfl)) rfl V.W.fr_list) (fun ad1 => ?_) nd
  refine s_asg 4 (P := vI (Qo.len : Int)) (e_eq (e_blt (c_max rfl) rfl V.W.fr_max PyProof.Rows.boot_max (a_cons (e_int (i := 0)) (a_cons (e_bin (e_bin (e_blt (c_len rfl) rfl V.W.fr_len PySem.boot_len (a_cons (e_sqT (e_fld (e_nm 0) V.W.cl_P V.W.na_P_row rfl)) a_nil)) (e_blt (c_len rfl) rfl V.W.fr_len PySem.boot_len (a_cons (e_sqT (e_fld (e_nm 1) V.W.cl_P V.W.na_P_row rfl)) a_nil)) o_sub) (e_int (i := 1)) o_add) a_nil))) (by
    rw [vRs_len, vRs_len]
    congr 2
    have := quo_len (Q := Qo) hm
    rw [hp] at this
    exact this)) ?_ nd
  refine s_lcG 5 (own := [("_", 10)]) (vs := [10]) (n := Qo.len) (Yp := fun l => vI (0 + (l : Nat))) (Zp := fun _ => vR K 0) (pit_n (p_range1 (i := (Qo.len : Int)) (e_nm 4) (by omega) (by omega) rfl V.W.fr_range) (by omega)) (by omega) nd (blk0 (by decide +kernel)) rfl (gow_name 10) (fun _ _ _ _ _ => pg_name (i := 10) nd rfl (Or.inl rfl)) (fun s2 H2 C cl fp i hi => e_mk0 (R_mk1 V 0) (fun _ => ⟨rfl, trivial⟩) hr (by omega) rfl (a_cons e_int a_nil)) (fun ad2 => ?_)
  have e0 : (List.range Qo.len).map (fun _ => vR K 0) = vRs K ((List.range Qo.len).map (fun t => if Qo.len ≤ t then Qo.c t else 0)) := by
    rw [← range_vRs]
    apply List.map_congr_left
    intro t ht
    rw [if_neg (by have := List.mem_range.mp ht; omega)]
  rw [e0, hrow]
  refine s_for (I := Unit) (pit_n (p_down (i := (Qo.len : Int) - 1) (j := -1) (e_bin (e_nm 4) (e_int (i := 1)) o_sub) (e_un (e_int (i := 1)) u_neg) (e_un (e_int (i := 1)) u_neg) (by omega) rfl V.W.fr_range) (show _ = Qo.len by omega)) (pg_name (i := 6) nd rfl (Or.inl rfl)) (fun i G => G.set 6 (some (vI ((Qo.len : Int) - 1 + (i : Nat) * (-1))))) (go_name 6)
    (fun _ _ => True) (fun _ _ => [some (vP K p), some (vP K m), some (vR K m.lc⁻¹), some (vAt ad1), none, some (vAt ad2), none, none, none, none, none]) (fun i _ => [.l ad2 (vRs K ((List.range Qo.len).map (fun t => if Qo.len - i ≤ t then Qo.c t else 0))), .l ad1 (vRs K ((List.range p.len).map (S Qo.c m.c (Qo.len - i))))]) () trivial ⟨rfl, rfl, rfl, rfl, rfl, trivial⟩ (by rw [Nat.sub_zero]) (fun Hb l _ sm hlt _ => ?_) (fun Hb _ sm _ => ?_) .never
  · obtain ⟨k, hk⟩ : ∃ k, Qo.len - l = k + 1 := ⟨Qo.len - l - 1, by omega⟩
    have hkl : k < Qo.len := by omega
    have ek : (Qo.len : Int) - 1 + (l : Nat) * (-1) = ((k : Nat) : Int) := by omega
    have ek2 : Qo.len - (l + 1) = k := by omega
    have hQ0 : Qo ≠ 0 := fun z => by rw [z, len_zero] at hkl; omega
    have hpl : p.len = Qo.len + m.len - 1 := by rw [← hp]; exact mul_len hQ0 hm
    rw [ek, hk, ek2]
    have rS : ∀ t, RB (S Qo.c m.c (k + 1) t) := fun t => by rw [← T2_zero]; exact hd.tl k 0 t hkl
    refine s_asg 7 (P := vR K (Qo.c k)) (e_eq (e_bin (e_ixM 1 (i := k + m.len - 1) rfl (e_nm 3) (e_eq (e_bin (e_bin (e_nm (P := vI ((k : Nat) : Int)) 6) (e_blt (c_len rfl) rfl V.W.fr_len PySem.boot_len (a_cons (e_sqT (e_fld (e_nm 1) V.W.cl_P V.W.na_P_row rfl)) a_nil)) o_add) (e_int (i := 1)) o_sub) (by rw [vRs_len]; congr 2; unfold Pol.len at *; omega)) (row_get (by omega))) (e_nm 2) (o_own (op := .Mult) (R_mul V _ m.lc⁻¹ (rS _) ((hd.ml (m.len - 1)).inv hlc)) V.W.m.sR hr (by omega))) (by
        rw [S_lead Qo.c m hml k]
        congr 1
        have := hlc
        grind)) ?_ nd
    refine s_setL 0 (i := k) rfl (e_nm 7) (e_nm 5) (e_nm (P := vI ((k : Nat) : Int)) 6) (by rw [row_len]; exact hkl) ?_
    have eo : (vRs K ((List.range Qo.len).map (fun t => if k + 1 ≤ t then Qo.c t else 0))).set k (vR K (Qo.c k)) = vRs K ((List.range Qo.len).map (fun t => if k ≤ t then Qo.c t else 0)) := row_set fun t ht => by
      by_cases e : t = k
      · subst e; rw [if_pos (Nat.le_refl _), if_pos rfl]
      · rw [if_neg e]
        by_cases e2 : k ≤ t
        · rw [if_pos e2, if_pos (by omega)]
        · rw [if_neg e2, if_neg (by omega)]
    rw [eo]
    refine s_ifR (k := decide ((Qo.c k).num = 0)) (t_cmp (e_fld (e_nm (P := vR K (Qo.c k)) 7) V.W.cl_R V.W.na_R_n rfl) e_int o_eq) (fun h => ?_) (fun _ => ?_)
    · refine ct_ok () trivial rfl ⟨rfl, rfl, rfl, rfl, rfl, trivial⟩ ?_
      have hz : Qo.c k = 0 := Rat.num_eq_zero.mp (of_decide_eq_true h)
      have : S Qo.c m.c (k + 1) = S Qo.c m.c k := by
        funext t
        rw [S, hz]
        split <;> grind
      rw [this]; rfl
    · refine s_for (I := Unit) (p_enum (e_sqT (e_fld (e_nm 1) V.W.cl_P V.W.na_P_row rfl)) rfl V.W.fr_enumerate) (pg_tup rfl (pgs_cons (pg_name (i := 8) nd rfl (Or.inl rfl)) (pgs_cons (pg_name (i := 9) nd rfl (Or.inl rfl)) pgs_nil))) (fun i G => setN G [8, 9] [vI ((i : Nat) : Int), atP (vRs K m.l) i]) (go_tup [8, 9] (fun _ => rfl))
        (fun _ _ => True) (fun _ _ => [some (vP K p), some (vP K m), some (vR K m.lc⁻¹), some (vAt ad1), none, some (vAt ad2), some (vI ((k : Nat) : Int)), some (vR K (Qo.c k)), none, none, none]) (fun j _ => [.l ad2 (vRs K ((List.range Qo.len).map (fun t => if k ≤ t then Qo.c t else 0))), .l ad1 (vRs K ((List.range p.len).map (T2 Qo.c m.c k j)))]) () trivial ⟨rfl, rfl, rfl, rfl, rfl, rfl, rfl, trivial⟩ (by
          rw [row_congr fun t => T2_zero Qo.c m.c k t]; rfl) (fun Hb2 j _ sm2 hj _ => ?_) (fun Hb2 _ sm2 _ => ?_) .never
      · rw [vRs_len] at hj
        have hj' : j < (vRs K m.l).length := by rw [vRs_len]; exact hj
        rw [atP_vRs hj']
        have hjl : j < m.len := hj
        refine s_if (k := !decide ((m.c j).num = 0)) (t_cmp (e_fld (e_nm (P := vR K (m.c j)) 9) V.W.cl_R V.W.na_R_n rfl) e_int o_ne) (fun h => ?_) (fun h => ?_)
        · refine s_setL 1 (i := k + j) rfl (e_bin (e_ixM 1 (i := k + j) rfl (e_nm 3) (e_eq (e_bin (e_nm (P := vI ((k : Nat) : Int)) 6) (e_nm (P := vI ((j : Nat) : Int)) 8) o_add) (by congr 1)) (row_get (by omega))) (e_bin (e_nm 7) (e_nm 9) (o_own (op := .Mult) (R_mul V (Qo.c k) (m.c j) (hd.ql k) (hd.ml j)) V.W.m.sR hr (by omega))) (o_own (op := .Sub) (R_sub V _ _ (hd.tl k j (k + j) hkl) (hd.pl k j)) V.W.m.sR hr (by omega))) (e_nm 3) (e_eq (e_bin (e_nm (P := vI ((k : Nat) : Int)) 6) (e_nm (P := vI ((j : Nat) : Int)) 8) o_add) (by congr 1)) (by rw [row_len]; omega) ?_
          refine s_end ?_ rfl
          refine nx_ok () trivial rfl ⟨rfl, rfl, rfl, rfl, rfl, rfl, rfl, trivial⟩ ?_
          show [MT.l ad2 _, MT.l ad1 _] = [MT.l ad2 _, MT.l ad1 _]
          rw [row_set (g := T2 Qo.c m.c k (j + 1)) fun t ht => ?_]
          rw [T2_step]
          by_cases e : t = k + j
          · subst e; rw [if_pos rfl, if_pos rfl]
          · rw [if_neg e, if_neg e]; grind
        · refine s_end ?_ rfl
          refine nx_ok () trivial rfl ⟨rfl, rfl, rfl, rfl, rfl, rfl, rfl, trivial⟩ ?_
          have hz : m.c j = 0 := by
            have := h
            simp at this
            exact this
          show [MT.l ad2 _, MT.l ad1 _] = [MT.l ad2 _, MT.l ad1 _]
          rw [row_congr (f := T2 Qo.c m.c k j) (g := T2 Qo.c m.c k (j + 1)) fun t => ?_]
          rw [T2_step, hz]
          split <;> grind
      · refine nx_ok2 sm2 () trivial rfl ⟨rfl, rfl, rfl, rfl, rfl, trivial⟩ ?_
        show [MT.l ad2 _, MT.l ad1 _] = [MT.l ad2 _, MT.l ad1 _]
        rw [vRs_len, show m.l.length = m.len from rfl, row_congr fun t => T2_full Qo.c m k t]
  · refine s_calm 5 rfl ?_
    refine s_calm 3 rfl ?_
    refine s_retV (R := vTu [vP K Qo, vP K 0]) (e_tup (a_cons ?_ (a_cons ?_ a_nil)) (show (2 : Nat) ≤ 100 by decide)) rfl fun v H' s' pv => q' v H' (sm.trans s') pv
    · refine e_eq (e_mk (P_mk V ((List.range Qo.len).map (fun t => if Qo.len - Qo.len ≤ t then Qo.c t else 0)) (by rw [List.length_map, List.length_range]; omega)) hr (by omega) rfl (a_cons (e_sqL (e_nm 5)) a_nil)) ?_
      congr 1
      refine Pol.ext fun i => ?_
      show (ofFn Qo.len _).c i = _
      rw [ofFn_c, Nat.sub_self, if_pos (Nat.zero_le i)]
      split
      · rfl
      · rw [Pol.c_ge (p := Qo) (by omega)]
    · refine e_eq (e_mk (P_mk V ((List.range p.len).map (S Qo.c m.c (Qo.len - Qo.len))) (by rw [List.length_map, List.length_range]; omega)) hr (by omega) rfl (a_cons (e_sqL (e_nm 3)) a_nil)) ?_
      congr 1
      refine Pol.ext fun i => ?_
      show (ofFn p.len _).c i = _
      rw [ofFn_c, Nat.sub_self, zero_c]
      split <;> rfl
theorem P_floordiv (V : Ev P K mg) (Qo m : Pol) (hm : m ≠ 0) (hd : DivW Qo m) (hl : (Qo * m).len ≤ 50000) (hl2 : m.len ≤ 50000) (hl3 : Qo.len ≤ 50000) : MetT P w K mg base 46 (He.ga K "Poly") "__floordiv__" [vP K (Qo * m), vP K m] [] (vP K Qo) := by
  obtain ⟨fd, F⟩ := V.W.fd_P_floordiv
  refine mk_met V.W.cl_P V.W.me_P_floordiv (fn_V F sc_P_floordiv rfl fun cdv A outer s H E Q hr q' => ?_) (b2 F)
  exact s_retV (e_ix (i := 0) (e_sqT (e_mth (ks := ["row"]) (P_divided V Qo m hm hd hl hl2 hl3) rfl (by decide) hr (by omega) (e_nm 0) (a_cons (e_nm 1) a_nil))) (e_int (i := 0)) rfl) rfl q'
end
end K31
set_option Elab.async false
set_option linter.all false
set_option maxRecDepth 100000
set_option maxHeartbeats 2000000
/-! M7: rows of integers: common divisors, primitive parts. -/
namespace K31
def gcdN (y : Nat → Int) : Nat → Nat
  | 0 => 0
  | i + 1 => Nat.gcd (gcdN y i) (y i).natAbs
theorem gcdN_dvd (y : Nat → Int) : ∀ (n i : Nat), i < n → ((gcdN y n : Nat) : Int) ∣ y i
  | 0, _, h => absurd h (by omega)
  | n + 1, i, h => by
    rcases Nat.lt_or_ge i n with k | k
    · exact Int.dvd_trans (Int.natCast_dvd_natCast.mpr (Nat.gcd_dvd_left _ _)) (gcdN_dvd y n i k)
    · have e : i = n := by omega
      subst e
      exact Int.ofNat_dvd_left.mpr (Nat.gcd_dvd_right _ _)
theorem dvd_gcdN (y : Nat → Int) (d : Nat) : ∀ n : Nat, (∀ i, i < n → (d : Int) ∣ y i) → d ∣ gcdN y n
  | 0, _ => ⟨0, rfl⟩
  | n + 1, h => Nat.dvd_gcd (dvd_gcdN y d n fun i hi => h i (by omega)) (Int.ofNat_dvd_left.mp (h n (by omega)))
theorem gcdN_pos (y : Nat → Int) (n i : Nat) (hi : i < n) (h : y i ≠ 0) : 0 < gcdN y n := by
  rcases Nat.eq_zero_or_pos (gcdN y n) with z | z
  · have := gcdN_dvd y n i hi
    rw [z] at this
    exact absurd (Int.zero_dvd.mp this) h
  · exact z
/-- divided by a common divisor of either sign the row has no common divisor -/
theorem prim_of (y : Nat → Int) (n : Nat) (hz : ∀ i, n ≤ i → y i = 0) (c : Int) (hc : c.natAbs = gcdN y n) (h0 : c ≠ 0) : Prim (fun i => y i / c) := by
  intro d hd
  have hdc : ∀ i, (c : Int) ∣ y i := fun i => by
    rcases Nat.lt_or_ge i n with h | h
    · rw [← Int.natAbs_dvd, hc]; exact gcdN_dvd y n i h
    · rw [hz i h]; exact Int.dvd_zero c
  have h1 : ∀ i, ((d * c.natAbs : Nat) : Int) ∣ y i := fun i => by
    obtain ⟨k, hk⟩ := hd i
    have e := Int.ediv_mul_cancel (hdc i)
    refine Int.natAbs_dvd.mp ?_
    rw [Int.natAbs_natCast]
    refine Int.ofNat_dvd_left.mpr ?_
    rw [← e, show y i / c = (d : Int) * k from hk, Int.natAbs_mul, Int.natAbs_mul, Int.natAbs_natCast]
    exact ⟨k.natAbs, by rw [Nat.mul_right_comm]⟩
  have h2 := dvd_gcdN y (d * c.natAbs) n fun i _ => h1 i
  rw [← hc] at h2
  obtain ⟨k, hk⟩ := h2
  have hp : 0 < c.natAbs := Int.natAbs_pos.mpr h0
  have h3 : c.natAbs * 1 = c.natAbs * (d * k) := by rw [Nat.mul_one, ← Nat.mul_assoc, Nat.mul_comm c.natAbs d]; exact hk
  have h4 := Nat.eq_of_mul_eq_mul_left hp h3
  exact Nat.eq_one_of_mul_eq_one_right h4.symm
theorem ediv_abs (a c : Int) (h : c ∣ a) (h0 : c ≠ 0) : (a / c).natAbs ≤ a.natAbs := by
  have e := Int.ediv_mul_cancel h
  have e2 := congrArg Int.natAbs e
  rw [Int.natAbs_mul] at e2
  rw [← e2]
  exact Nat.le_mul_of_pos_right _ (Int.natAbs_pos.mpr h0)
/-! ### the least common divisor -/
def lcmN (f : Nat → Nat) : Nat → Nat
  | 0 => 1
  | i + 1 => Nat.lcm (lcmN f i) (f i)
theorem lcmN_dvd (f : Nat → Nat) (E : Nat) (h : ∀ i, f i ∣ E) : ∀ n, lcmN f n ∣ E
  | 0 => Nat.one_dvd _
  | n + 1 => Nat.lcm_dvd (lcmN_dvd f E h n) (h n)
theorem dvd_lcmN (f : Nat → Nat) : ∀ n i, i < n → f i ∣ lcmN f n
  | 0, _, h => absurd h (by omega)
  | n + 1, i, h => by
    rcases Nat.lt_or_ge i n with k | k
    · exact Nat.dvd_trans (dvd_lcmN f n i k) (Nat.dvd_lcm_left _ _)
    · have e : i = n := by omega
      subst e
      exact Nat.dvd_lcm_right _ _
theorem den_dvd {x : Rat} {E : Nat} {z : Int} (h : x * (E : Rat) = (z : Rat)) : x.den ∣ E := by
  have k1 : x.num * (E : Int) = z * (x.den : Int) := by
    have e : ((x.num * (E : Int) : Int) : Rat) = ((z * (x.den : Int) : Int) : Rat) := by
      have := rat_mul_den x
      have hd := rat_den_ne x
      rw [Rat.intCast_mul, Rat.intCast_mul, ← this, ← h, Rat.intCast_natCast, Rat.intCast_natCast]
      grind
    exact Rat.intCast_inj.mp e
  refine Nat.Coprime.dvd_of_dvd_mul_left (m := x.num.natAbs) x.reduced.symm ?_
  have e := congrArg Int.natAbs k1
  rw [Int.natAbs_mul, Int.natAbs_mul, Int.natAbs_natCast, Int.natAbs_natCast] at e
  rw [e]
  exact Nat.dvd_mul_left _ _
/-- p times its least common denominator L -/
def yP (p : Pol) (L : Nat) : Nat → Int := fun i => (p.c i).num * ((L / (p.c i).den : Nat) : Int)
theorem yP_cast {p : Pol} {L : Nat} {i : Nat} (h : (p.c i).den ∣ L) : ((yP p L i : Int) : Rat) = p.c i * (L : Rat) := by
  obtain ⟨k, hk⟩ := h
  have hd := (p.c i).den_pos
  unfold yP
  rw [hk, Nat.mul_div_cancel_left _ hd, Rat.intCast_mul, ← rat_mul_den (p.c i), Rat.intCast_natCast]
  have e : (((p.c i).den * k : Nat) : Rat) = ((p.c i).den : Rat) * (k : Rat) := by
    rw [← Rat.intCast_natCast, ← Rat.intCast_natCast, ← Rat.intCast_natCast, Int.natCast_mul, Rat.intCast_mul]
  rw [e]; grind
theorem yP_abs {p : Pol} {L E : Nat} {i : Nat} {z : Int} (h : (p.c i).den ∣ L) (hL : L ∣ E) (hE : 0 < E) (hz : p.c i * (E : Rat) = (z : Rat)) : (yP p L i).natAbs ≤ z.natAbs := by
  obtain ⟨k, hk⟩ := hL
  have hk0 : 0 < k := by
    rcases Nat.eq_zero_or_pos k with e | e
    · rw [e] at hk; omega
    · exact e
  have e : yP p L i * (k : Int) = z := by
    have : ((yP p L i * (k : Int) : Int) : Rat) = (z : Rat) := by
      rw [Rat.intCast_mul, yP_cast h, ← hz, hk, Rat.intCast_natCast]
      have e : ((L * k : Nat) : Rat) = (L : Rat) * (k : Rat) := by
        rw [← Rat.intCast_natCast, ← Rat.intCast_natCast, ← Rat.intCast_natCast, Int.natCast_mul, Rat.intCast_mul]
      rw [e]; grind
    exact Rat.intCast_inj.mp this
  rw [← e, Int.natAbs_mul, Int.natAbs_natCast]
  exact Nat.le_mul_of_pos_right _ hk0
/-! ### rows -/
def zf (l : List Int) : ZS := fun i => l.getD i 0
def pz (l : List Int) : Pol := ofList (l.map fun (i : Int) => (i : Rat))
theorem pz_is (l : List Int) : IsZ (pz l) (zf l) := fun i => by
  unfold pz zf
  rw [ofList_c, List.getD_eq_getElem?_getD, List.getElem?_map, List.getD_eq_getElem?_getD]
  cases l[i]? <;> rfl
theorem zf_ge {l : List Int} {i : Nat} (h : l.length ≤ i) : zf l i = 0 := by
  unfold zf
  rw [List.getD_eq_getElem?_getD, List.getElem?_eq_none h]; rfl
def TrZ (l : List Int) : Prop := l = [] ∨ zf l (l.length - 1) ≠ 0
theorem pz_len {l : List Int} (h : TrZ l) : (pz l).len = l.length := by
  rcases h with h | h
  · subst h; exact len_zero ▸ rfl
  · have h0 : 0 < l.length := by
      rcases Nat.eq_zero_or_pos l.length with e | e
      · exact absurd (zf_ge (by omega)) h
      · exact e
    have e : l.length = l.length - 1 + 1 := by omega
    rw [e]
    refine Pol.len_eq (fun i hi => ?_) ?_
    · rw [pz_is, zf_ge (by omega)]; rfl
    · rw [pz_is]
      intro z
      exact h (Rat.intCast_eq_zero_iff.mp z)
theorem zf_range {n : Nat} {f : Nat → Int} (i : Nat) : zf ((List.range n).map f) i = if i < n then f i else 0 := by
  unfold zf
  rw [List.getD_eq_getElem?_getD, List.getElem?_map]
  split
  · rename_i h; rw [List.getElem?_range h]; rfl
  · rename_i h; rw [List.getElem?_eq_none (by rw [List.length_range]; omega)]; rfl
theorem list_eq_range (l : List Int) : l = (List.range l.length).map (zf l) := by
  apply List.ext_getElem?
  intro i
  rw [List.getElem?_map]
  by_cases h : i < l.length
  · rw [List.getElem?_range h, List.getElem?_eq_getElem h]
    unfold zf
    show _ = some (l.getD i 0)
    rw [List.getD_eq_getElem?_getD, List.getElem?_eq_getElem h]; rfl
  · rw [List.getElem?_eq_none (by omega), List.getElem?_eq_none (by rw [List.length_range]; omega)]; rfl
/-- the primitive row -/
def primZ (l : List Int) : List Int := (List.range l.length).map fun i => zf l i / ((gcdN (zf l) l.length : Nat) : Int)
theorem primZ_nil : primZ [] = [] := rfl
theorem primZ_len (l : List Int) : (primZ l).length = l.length := by unfold primZ; rw [List.length_map, List.length_range]
theorem primZ_at {l : List Int} (i : Nat) : zf (primZ l) i = zf l i / ((gcdN (zf l) l.length : Nat) : Int) := by
  unfold primZ
  rw [zf_range]
  split
  · rfl
  · rw [zf_ge (l := l) (by omega)]; simp
theorem TrZ.g_pos {l : List Int} (h : TrZ l) (h0 : l ≠ []) : 0 < gcdN (zf l) l.length := by
  rcases h with h | h
  · exact absurd h h0
  · have h1 : 0 < l.length := List.length_pos_iff.mpr h0
    exact gcdN_pos _ _ (l.length - 1) (by omega) h
theorem primZ_mul {l : List Int} (h : TrZ l) (h0 : l ≠ []) (i : Nat) : zf l i = zf (primZ l) i * ((gcdN (zf l) l.length : Nat) : Int) := by
  rw [primZ_at]
  refine (Int.ediv_mul_cancel ?_).symm
  rcases Nat.lt_or_ge i l.length with k | k
  · exact gcdN_dvd _ _ _ k
  · rw [zf_ge k]; exact Int.dvd_zero _
theorem primZ_prim {l : List Int} (h : TrZ l) (h0 : l ≠ []) : Prim (zf (primZ l)) := by
  have hp := h.g_pos h0
  have := prim_of (zf l) l.length (fun i hi => zf_ge hi) ((gcdN (zf l) l.length : Nat) : Int) (Int.natAbs_natCast _) (by omega)
  have e : zf (primZ l) = fun i => zf l i / ((gcdN (zf l) l.length : Nat) : Int) := funext fun i => primZ_at i
  rw [e]; exact this
theorem primZ_tr {l : List Int} (h : TrZ l) : TrZ (primZ l) := by
  by_cases h0 : l = []
  · subst h0; exact .inl rfl
  · refine .inr ?_
    rw [primZ_len]
    intro z
    have := primZ_mul h h0 (l.length - 1)
    rw [z, Int.zero_mul] at this
    rcases h with h | h
    · exact h0 h
    · exact h this
theorem primZ_pol {l : List Int} (h : TrZ l) (h0 : l ≠ []) : pz l = cst ((gcdN (zf l) l.length : Nat) : Rat) * pz (primZ l) := Pol.ext fun i => by
  rw [cst_mul_c, pz_is, pz_is, primZ_mul h h0 i, Rat.intCast_mul, Rat.intCast_natCast, primZ_at]; grind
end K31
set_option Elab.async false
set_option linter.all false
set_option maxRecDepth 100000
set_option maxHeartbeats 2000000
/-! W8: Poly.primitive, _primitive_row. -/
namespace K31
open PySem PySem.Spec L2
theorem atP_map {α : Type} {f : α → VP} {l : List α} {d : α} {i : Nat} (h : i < (l.map f).length) : atP (l.map f) i = f (l.getD i d) := by
  have h1 := atP_get h
  have h2 : i < l.length := by rw [List.length_map] at h; exact h
  rw [List.getElem?_map, List.getElem?_eq_getElem h2] at h1
  rw [List.getD_eq_getElem?_getD, List.getElem?_eq_getElem h2]
  exact (Option.some.inj h1).symm
def vZs (l : List Int) : List VP := l.map vI
theorem vZs_len {l : List Int} : (vZs l).length = l.length := List.length_map _
theorem vZs_at {l : List Int} {i : Nat} (h : i < (vZs l).length) : atP (vZs l) i = vI (zf l i) := atP_map h
theorem vZs_get {l : List Int} {i : Nat} (h : i < l.length) : (vZs l)[i]? = some (vI (zf l i)) := by
  have := atP_get (Ps := vZs l) (i := i) (by rw [vZs_len]; exact h)
  rw [vZs_at (by rw [vZs_len]; exact h)] at this
  exact this
theorem range_vZs {n : Nat} {f : Nat → Int} : (List.range n).map (fun i => vI (f i)) = vZs ((List.range n).map f) := by
  unfold vZs
  rw [List.map_map]; rfl
def pcC (p : Pol) (L : Nat) : Int := if decide (p.lc.num < 0) = true then -((gcdN (yP p L) p.len : Nat) : Int) else ((gcdN (yP p L) p.len : Nat) : Int)
def pcL (p : Pol) : Nat := lcmN (fun i => (p.c i).den) p.len
/-- the primitive integers of p -/
def primP (p : Pol) : List Int := (List.range p.len).map fun i => yP p (pcL p) i / pcC p (pcL p)
theorem den_zero {p : Pol} {i : Nat} (h : p.len ≤ i) : (p.c i).den = 1 := by rw [Pol.c_ge h]; rfl
theorem pcL_dvd (p : Pol) (i : Nat) : (p.c i).den ∣ pcL p := by
  rcases Nat.lt_or_ge i p.len with h | h
  · exact dvd_lcmN (fun i => (p.c i).den) _ _ h
  · rw [den_zero h]; exact Nat.one_dvd _
theorem lcm_pos' (f : Nat → Nat) (h : ∀ i, 0 < f i) : ∀ n, 0 < lcmN f n
  | 0 => Nat.one_pos
  | n + 1 => Nat.lcm_pos (lcm_pos' f h n) (h n)
theorem pcL_pos (p : Pol) : 0 < pcL p := lcm_pos' _ (fun i => (p.c i).den_pos) _
theorem yP_ge {p : Pol} {L i : Nat} (h : p.len ≤ i) : yP p L i = 0 := by unfold yP; rw [Pol.c_ge h]; simp
theorem yP_lead {p : Pol} (h : p ≠ 0) : yP p (pcL p) (p.len - 1) ≠ 0 := by
  intro z
  have e := yP_cast (pcL_dvd p (p.len - 1))
  rw [z] at e
  have h1 : p.lc ≠ 0 := Pol.lc_ne h
  have h2 : ((pcL p : Nat) : Rat) ≠ 0 := by
    intro q
    have : ((pcL p : Nat) : Rat) = ((0 : Nat) : Rat) := q
    have := Rat.natCast_inj.mp this
    have := pcL_pos p
    omega
  have h3 : p.c (p.len - 1) * ((pcL p : Nat) : Rat) = 0 := by rw [← e]; rfl
  have h4 : p.c (p.len - 1) ≠ 0 := h1
  grind
theorem pcG_pos {p : Pol} (h : p ≠ 0) : 0 < gcdN (yP p (pcL p)) p.len :=
  gcdN_pos _ _ (p.len - 1) (by have := Pol.len_pos h; omega) (yP_lead h)
theorem pcC_abs (p : Pol) (L : Nat) : (pcC p L).natAbs = gcdN (yP p L) p.len := by
  unfold pcC
  split
  · rw [Int.natAbs_neg, Int.natAbs_natCast]
  · rw [Int.natAbs_natCast]
theorem pcC_ne {p : Pol} (h : p ≠ 0) : pcC p (pcL p) ≠ 0 := by
  have := pcG_pos h
  have := pcC_abs p (pcL p)
  omega
theorem pcC_dvd (p : Pol) (L i : Nat) : pcC p L ∣ yP p L i := by
  rcases Nat.lt_or_ge i p.len with h | h
  · rw [← Int.natAbs_dvd, pcC_abs]; exact gcdN_dvd _ _ _ h
  · rw [yP_ge h]; exact Int.dvd_zero _
theorem zf_primP (p : Pol) (i : Nat) : zf (primP p) i = yP p (pcL p) i / pcC p (pcL p) := by
  unfold primP
  rw [zf_range]
  split
  · rfl
  · rw [yP_ge (by omega)]; simp
theorem primP_len (p : Pol) : (primP p).length = p.len := by unfold primP; rw [List.length_map, List.length_range]
theorem primP_mul (p : Pol) (i : Nat) : yP p (pcL p) i = zf (primP p) i * pcC p (pcL p) := by
  rw [zf_primP]; exact (Int.ediv_mul_cancel (pcC_dvd _ _ _)).symm
theorem primP_prim {p : Pol} (h : p ≠ 0) : Prim (zf (primP p)) := by
  have e : zf (primP p) = fun i => yP p (pcL p) i / pcC p (pcL p) := funext (zf_primP p)
  rw [e]
  exact prim_of _ p.len (fun i hi => yP_ge hi) _ (pcC_abs _ _) (pcC_ne h)
theorem primP_tr {p : Pol} (h : p ≠ 0) : TrZ (primP p) := by
  refine .inr ?_
  rw [primP_len]
  intro z
  have := primP_mul p (p.len - 1)
  rw [z, Int.zero_mul] at this
  exact yP_lead h this
theorem primP_pol {p : Pol} (h : p ≠ 0) : ∃ l : Rat, l ≠ 0 ∧ p = cst l * pz (primP p) := by
  refine ⟨(pcC p (pcL p) : Rat) / ((pcL p : Nat) : Rat), ?_, Pol.ext fun i => ?_⟩
  · have h1 : (pcC p (pcL p) : Rat) ≠ 0 := fun z => pcC_ne h (Rat.intCast_eq_zero_iff.mp z)
    have h2 : ((pcL p : Nat) : Rat) ≠ 0 := by
      intro q
      have : ((pcL p : Nat) : Rat) = ((0 : Nat) : Rat) := q
      have := Rat.natCast_inj.mp this
      have := pcL_pos p
      omega
    grind
  · rw [cst_mul_c, pz_is]
    have e := yP_cast (pcL_dvd p i)
    rw [primP_mul, Rat.intCast_mul] at e
    have h2 : ((pcL p : Nat) : Rat) ≠ 0 := by
      intro q
      have : ((pcL p : Nat) : Rat) = ((0 : Nat) : Rat) := q
      have := Rat.natCast_inj.mp this
      have := pcL_pos p
      omega
    grind
theorem primP_abs {s : Nat} {p : Pol} (h : PZ s p) (h0 : p ≠ 0) (i : Nat) : (zf (primP p) i).natAbs ≤ 2 ^ s := by
  obtain ⟨E, h1, h2, h3⟩ := h
  obtain ⟨z, hz, hb⟩ := h3 i
  have hE : pcL p ∣ E := lcmN_dvd _ E (fun i => by
    obtain ⟨z, hz, _⟩ := h3 i
    exact den_dvd hz) _
  rw [zf_primP]
  exact Nat.le_trans (ediv_abs _ _ (pcC_dvd _ _ _) (pcC_ne h0)) (Nat.le_trans (yP_abs (pcL_dvd p i) hE h1 hz) hb)
theorem lcmN_le {s : Nat} {p : Pol} (h : PZ s p) (n : Nat) : lcmN (fun i => (p.c i).den) n ≤ 2 ^ s := by
  obtain ⟨E, h1, h2, h3⟩ := h
  exact Nat.le_trans (Nat.le_of_dvd h1 (lcmN_dvd _ E (fun i => by
    obtain ⟨z, hz, _⟩ := h3 i
    exact den_dvd hz) _)) h2
theorem DivOk.blk {X : Cx} (D : DivOk X) {s : Shared} {H : Hp} {sc : Scope} {env : Env} {fp : List Addr} : DivOk (X.blk s H sc env fp) := ⟨D.tree, D.seer, D.dp, D.st⟩
section
variable {P : Program} {w : World} {K : PySem.W.Frag} {mg : Str → Option Value} {base : Heap}
theorem P_primitive (V : Ev P K mg) (p : Pol) (h0 : p ≠ 0) {s0 : Nat} (hp : PZ s0 p) (hs : s0 < SZ - 1) (hl : p.len ≤ 100000) : MetT P w K mg base 44 (He.ga K "Poly") "primitive" [vP K p] [] (vTu [vR K ((pcC p (pcL p) : Rat) / (((pcL p : Nat) : Int) : Rat)), vTu (vZs (primP p))]) := by
  obtain ⟨fd, F⟩ := V.W.fd_P_primitive
  have nd := sc_P_primitive.nd
  have hl' : p.l.length ≤ 100000 := hl
  have hrb : PRB p := hp.rb (by omega)
  have hpow : 2 ^ s0 < 2 ^ SZ := Nat.pow_lt_pow_right (by decide) (by omega)
  refine mk_met V.W.cl_P V.W.me_P_primitive (fn_V F sc_P_primitive rfl fun cdv A outer s H E Q hr q' => ?_) (b1 F)
  have D := divOk0 (w := w) (base := base) (outer := outer) (H := H) (E := E) V sc_P_primitive hr (by omega)
  refine s_unp [1, 2] (Ps := [vI 1, vI 0]) (e_tup (a_cons (e_int (i := 1)) (a_cons (e_int (i := 0)) a_nil)) (show (2 : Nat) ≤ 100 by decide)) (pg_tup rfl (pgs_cons (pg_name (i := 1) nd rfl (Or.inr rfl)) (pgs_cons (pg_name (i := 2) nd rfl (Or.inr rfl)) pgs_nil))) rfl ?_
  -- the divisor
  refine s_for (I := Unit) (pi_seq (e_sqT (e_fld (e_nm 0) V.W.cl_P V.W.na_P_row rfl))) (pg_name (i := 3) nd rfl (Or.inl rfl)) (fun i G => G.set 3 (some (atP (vRs K p.l) i))) (go_name 3) (fun _ _ => True) (fun i _ => [some (vP K p), some (vI ((lcmN (fun i => (p.c i).den) i : Nat) : Int)), some (vI 0), none, none]) (fun _ _ => []) () trivial ⟨rfl, rfl, rfl, trivial⟩ rfl (fun Hb k _ sm hk _ => ?_) (fun Hb _ sm _ => ?_) .never
  · rw [atP_vRs hk]
    have hz : Nat.lcm (((lcmN (fun i => (p.c i).den) k : Nat) : Int)).natAbs (((p.c k).den : Nat) : Int).natAbs = lcmN (fun i => (p.c i).den) (k + 1) := by
      rw [Int.natAbs_natCast, Int.natAbs_natCast]; rfl
    refine s_asg 1 (e_eq (e_bfun (c_lcm D (i := ((lcmN (fun i => (p.c i).den) k : Nat) : Int)) (l := (((p.c k).den : Nat) : Int)) (k := SZ) SZ_pos (by decide) (by rw [hz]; have := lcmN_le hp (k + 1); omega)) rfl V.W.m.lcm (a_cons (e_nm 1) (a_cons (e_fld (e_nm (P := vR K (p.c k)) 3) V.W.cl_R V.W.na_R_d rfl) a_nil))) (by rw [hz])) ?_ nd
    exact nx_ok () trivial rfl ⟨rfl, rfl, rfl, trivial⟩ rfl
  rw [vRs_len]
  have eL : lcmN (fun i => (p.c i).den) p.l.length = pcL p := rfl
  rw [eL]
  have hLle : pcL p ≤ 2 ^ s0 := lcmN_le hp _
  have yv : ∀ i, CMulX (p.c i).num (((pcL p / (p.c i).den : Nat) : Int)) := fun i => mulx_ok (hrb i).1 (b := SZ) (by
    rw [Int.natAbs_natCast]
    have := Nat.div_le_self (pcL p) (p.c i).den
    omega) SZ_le
  have dv : ∀ i, ((pcL p : Nat) : Int) = (((pcL p / (p.c i).den : Nat) : Int)) * (((p.c i).den : Nat) : Int) := fun i => by
    rw [← Int.natCast_mul, Nat.div_mul_cancel (pcL_dvd p i)]
  refine s_for (I := Unit) (pi_seq (e_sqT (e_fld (e_nm 0) V.W.cl_P V.W.na_P_row rfl))) (pg_name (i := 3) nd rfl (Or.inl rfl)) (fun i G => G.set 3 (some (atP (vRs K p.l) i))) (go_name 3) (fun _ _ => True) (fun i _ => [some (vP K p), some (vI ((pcL p : Nat) : Int)), some (vI ((gcdN (yP p (pcL p)) i : Nat) : Int)), none, none]) (fun _ _ => []) () trivial ⟨rfl, rfl, rfl, trivial⟩ rfl (fun Hb k _ sm2 hk _ => ?_) (fun Hb2 _ sm2 _ => ?_) .never
  · rw [atP_vRs hk]
    refine s_asg (P := vI ((gcdN (yP p (pcL p)) (k + 1) : Nat) : Int)) 2 (e_eq (e_bfun c_gcd rfl V.W.m.gcd (a_cons (e_nm 2) (a_cons (e_bin (e_fld (e_nm (P := vR K (p.c k)) 3) V.W.cl_R V.W.na_R_n rfl) (e_bin (e_nm 1) (e_fld (e_nm (P := vR K (p.c k)) 3) V.W.cl_R V.W.na_R_d rfl) (o_fdivX D (den_ne (p.c k)) (dv k))) (o_mul (yv k))) a_nil))) (by rw [Int.natAbs_natCast]; rfl)) ?_ nd
    exact nx_ok () trivial rfl ⟨rfl, rfl, rfl, trivial⟩ rfl
  rw [vRs_len]
  have eG : gcdN (yP p (pcL p)) p.l.length = gcdN (yP p (pcL p)) p.len := rfl
  rw [eG]
  have fin : ∀ (Hx : Hp) (D' : Ends), Same H Hx → D'.rt = Q → SOk (cx0 P w K mg base N_P_primitive "Poly.primitive" (defScope st_P_primitive) (He.fAd K ("Poly", some "primitive")) cdv A outer s H E) ((defBody st_P_primitive).drop 4) Hx [some (vP K p), some (vI ((pcL p : Nat) : Int)), some (vI (pcC p (pcL p))), none, none] [] D' := by
    intro Hx D' hx hD'
    refine s_asg 4 (P := vTu (vZs (primP p))) (e_bty c_tuple rfl V.W.fr_tuple PyProof.Rows.boot_tuple (a_cons (e_sqL (e_eq (TyN.ty (n_lcG (own := [("c", 3)]) (vs := [3]) (Zp := fun i => vI (yP p (pcL p) i / pcC p (pcL p))) (pi_seq (e_sqT (e_fld (e_nm 0) V.W.cl_P V.W.na_P_row rfl))) ?_ nd (blk0 (by decide +kernel)) rfl (gow_name 3) (fun _ _ _ _ _ => pg_name (i := 3) nd rfl (Or.inl rfl)) (fun s2 H2 C cl fp i hi => ?_))) ?_)) a_nil)) ?_ nd
    · rw [vRs_len]; exact hl'
    · exact e_bin (e_bin (e_fld (e_eq (e_nm 3) (atP_vRs hi)) V.W.cl_R V.W.na_R_n rfl) (e_bin (e_nm 1) (e_fld (e_eq (e_nm 3) (atP_vRs hi)) V.W.cl_R V.W.na_R_d rfl) (o_fdivX D.blk (den_ne (p.c i)) (dv i))) (o_mul (yv i))) (e_nm 2) (o_fdivX D.blk (pcC_ne h0) (Int.ediv_mul_cancel (pcC_dvd p (pcL p) i)).symm)
    · rw [vRs_len, range_vZs]; rfl
    · refine s_retV (R := vTu [vR K ((pcC p (pcL p) : Rat) / (((pcL p : Nat) : Int) : Rat)), vTu (vZs (primP p))]) (e_tup (a_cons ?_ (a_cons ?_ a_nil)) (show (2 : Nat) ≤ 100 by decide)) hD' fun v H' s' pv => q' v H' (hx.trans s') pv
      · exact e_mk (R_mk2 V (pcC p (pcL p)) ((pcL p : Nat) : Int) (by have := pcL_pos p; omega)) hr (by omega) rfl (a_cons (e_nm 2) (a_cons (e_nm 1) a_nil))
      · exact e_nm 4
  refine s_if (k := decide (p.lc.num < 0)) (t_cmp (e_fld (e_mth0 (ks := ["row"]) (P_last V p h0) rfl (by decide) hr (by omega) (e_nm 0)) V.W.cl_R V.W.na_R_n rfl) e_int o_lt) (fun hk => ?_) fun hk => ?_
  · refine s_asg 2 (e_eq (e_un (e_nm 2) u_neg) ?_) (s_end (fin _ _ (sm.trans sm2) rfl) rfl) nd
    unfold pcC
    rw [if_pos hk]
  · refine s_end ((fin _ _ (sm.trans sm2) rfl).weak ?_) rfl
    unfold pcC
    rw [if_neg (by rw [hk]; exact Bool.false_ne_true)]
    exact ⟨rfl, rfl, rfl, trivial⟩
end
end K31
set_option Elab.async false
set_option linter.all false
set_option maxRecDepth 100000
set_option maxHeartbeats 2000000
/-! W9: _primitive_row, _integer_rest. -/
namespace K31
open PySem PySem.Spec L2
theorem getD_take_all {l : List Int} : (vZs l).take l.length = vZs l := by
  rw [← vZs_len, List.take_length]
theorem zd_take (l : List Int) : l.take l.length = l := List.take_length
theorem primZ_one {l : List Int} (h : gcdN (zf l) l.length < 2) (ht : TrZ l) : primZ l = l := by
  by_cases h0 : l = []
  · subst h0; rfl
  · have := ht.g_pos h0
    have e : gcdN (zf l) l.length = 1 := by omega
    have e2 := list_eq_range l
    unfold primZ
    rw [e]
    have : (fun i => zf l i / ((1 : Nat) : Int)) = zf l := by funext i; simp
    rw [this, ← e2]
section
variable {P : Program} {w : World} {K : PySem.W.Frag} {mg : Str → Option Value} {base : Heap}
theorem primitive_row_c (V : Ev P K mg) (l : List Int) (ht : TrZ l) (hl : l.length ≤ 100000) : CalT P w K mg base 44 "_primitive_row" [vLs (vZs l)] [] (vLs (vZs (primZ l))) := by
  obtain ⟨fd, F⟩ := V.W.fd_primitive_row
  have nd := sc_primitive_row.nd
  refine mk_cal (fn_V F sc_primitive_row rfl fun cdv A outer s H E Q hr q => ?_) V.W.gl_primitive_row F.kp (b1 F)
  have D := divOk0 (w := w) (base := base) (outer := outer) (H := H) (E := E) V sc_primitive_row hr (by omega)
  refine s_asg 1 (e_eq (e_blt (c_len rfl) rfl V.W.fr_len PySem.boot_len (a_cons (e_sqL (e_nm 0)) a_nil)) (by rw [vZs_len])) ?_ nd
  refine s_while (I := Unit) (fun _ => True) (fun _ => [some (vLs (vZs l)), some (vI ((l.length : Nat) : Int)), none, none]) (fun _ => []) (fun _ => 0) (fun _ => false) () trivial ⟨rfl, rfl, trivial⟩ rfl (fun _ _ => ?_) (fun _ _ _ _ z => absurd z Bool.false_ne_true) (fun Hb _ sm _ _ => ?_) .never
  · refine t_eq (t_w (w_and (j := decide (0 < ((l.length : Nat) : Int))) (k := false) (t_cmp (e_nm 1) e_int o_gt) fun h => w_and1 ?_)) (Bool.and_false _)
    have h0 := of_decide_eq_true h
    rcases ht with e | e
    · rw [e] at h0; exact absurd h0 (by decide)
    · exact t_eq (t_cmp (e_ix (i := l.length - 1) (e_sqL (e_nm 0)) (e_eq (e_bin (e_nm 1) e_int o_sub) (by rw [sub1_cast (by omega)])) (vZs_get (by omega))) e_int o_eq) (decide_eq_false e)
  refine s_asg 2 (e_int (i := 0)) ?_ nd
  refine s_for (I := Unit) (pi_seq (e_sqL (e_eq (e_slL1 (e_nm 0) (e_nm 1)) (by rw [getD_take_all])))) (pg_name (i := 3) nd rfl (Or.inl rfl)) (fun i G => G.set 3 (some (atP (vZs l) i))) (go_name 3) (fun _ _ => True) (fun i _ => [some (vLs (vZs l)), some (vI ((l.length : Nat) : Int)), some (vI ((gcdN (zf l) i : Nat) : Int)), none]) (fun _ _ => []) () trivial ⟨rfl, rfl, rfl, trivial⟩ rfl (fun Hb k _ sm2 hk _ => ?_) (fun Hb2 _ sm2 _ => ?_) .never
  · rw [vZs_at hk]
    refine s_asg (P := vI ((gcdN (zf l) (k + 1) : Nat) : Int)) 2 (e_eq (e_bfun c_gcd rfl V.W.m.gcd (a_cons (e_nm 2) (a_cons (e_nm (P := vI (zf l k)) 3) a_nil))) (by rw [Int.natAbs_natCast]; rfl)) ?_ nd
    exact nx_ok () trivial rfl ⟨rfl, rfl, rfl, trivial⟩ rfl
  rw [vZs_len]
  refine s_ifR (k := decide (((gcdN (zf l) l.length : Nat) : Int) < 2)) (t_cmp (e_nm 2) e_int o_lt) (fun h => ?_) fun h => ?_
  · refine s_retV (e_eq (e_slL1 (e_nm 0) (e_nm 1)) ?_) rfl fun v H' s' pv => q v H' ((sm.trans sm2).trans s') pv
    have := of_decide_eq_true h
    rw [getD_take_all, primZ_one (by omega) ht]
  · have hg := of_decide_eq_false h
    refine s_retV (e_eq (TyN.ty (n_lcG (own := [("n", 3)]) (vs := [3]) (Zp := fun i => vI (zf l i / ((gcdN (zf l) l.length : Nat) : Int))) (pi_seq (e_sqL (e_eq (e_slL1 (e_nm 0) (e_nm 1)) (by rw [getD_take_all])))) (by rw [vZs_len]; exact hl) nd (blk0 (by decide +kernel)) rfl (gow_name 3) (fun _ _ _ _ _ => pg_name (i := 3) nd rfl (Or.inl rfl)) (fun s2 H2 C cl fp i hi => ?_))) ?_) rfl fun v H' s' pv => q v H' ((sm.trans sm2).trans s') pv
    · refine e_bin (e_eq (e_nm 3) (vZs_at hi)) (e_nm 2) (o_fdivX D.blk (by omega) (Int.ediv_mul_cancel ?_).symm)
      rw [vZs_len] at hi
      exact gcdN_dvd _ _ _ hi
    · rw [vZs_len, range_vZs]; rfl
end
end K31
set_option Elab.async false
set_option linter.all false
set_option maxRecDepth 100000
set_option maxHeartbeats 2000000
/-! W10: _integer_rest. -/
namespace K31
open PySem PySem.Spec L2
/-- something of a kind -/
def vEx {α : Type} (F : α → VP) (Good : α → Prop) : VP := ⟨fun v H => ∃ a, Good a ∧ (F a).p v H, fun v H H' s ⟨a, g, h⟩ => ⟨a, g, (F a).m _ _ _ s h⟩⟩
theorem e_ex {X : Cx} {e : Expr} {G : Ctx} {M : MCtx} {α : Type} {F : α → VP} {Good : α → Prop} (a : α) (h : TyE X e G M (F a)) (g : Good a) : TyE X e G M (vEx F Good) := e_is h fun v H p => ⟨a, g, p⟩
theorem s_open {X : Cx} {sts : List Stmt} {H0 : Hp} {G : Ctx} {M : MCtx} {D : Ends} {α : Type} {F : α → VP} {Good : α → Prop} (i : Nat) (hG : G[i]? = some (some (vEx F Good))) (h : ∀ a, Good a → SOk X sts H0 (G.set i (some (F a))) M D) : SOk X sts H0 G M D := fun t Hf H s o m => by
  obtain ⟨v, hv, a, g, pv⟩ := o.get hG
  have e : t = t.set i (some v) := (set_same hv).symm
  have o2 : OkS (G.set i (some (F a))) (t.set i (some v)) Hf := o.set pv
  rw [← e] at o2
  exact h a g t Hf H s o2 m
theorem zrow_set {n : Nat} {f g : Nat → Int} {i : Nat} {x : Int} (h : ∀ t, t < n → g t = if t = i then x else f t) : (vZs ((List.range n).map f)).set i (vI x) = vZs ((List.range n).map g) := by
  unfold vZs
  apply List.ext_getElem?
  intro t
  rw [List.getElem?_set, List.getElem?_map, List.getElem?_map, List.getElem?_map, List.getElem?_map]
  by_cases ht : t < n
  · rw [List.getElem?_range ht]
    by_cases e : i = t
    · subst e
      rw [if_pos rfl, if_pos (by simpa using ht)]
      show some _ = some (vI (g i))
      rw [h i ht, if_pos rfl]
    · rw [if_neg e]
      show some (vI (f t)) = some (vI (g t))
      rw [h t ht, if_neg (fun z => e z.symm)]
  · rw [List.getElem?_eq_none (by rw [List.length_range]; omega)]
    by_cases e : i = t
    · rw [if_pos e, if_neg (by simp; omega)]; rfl
    · rw [if_neg e]; rfl
theorem zrow_len {n : Nat} {f : Nat → Int} : (vZs ((List.range n).map f)).length = n := by rw [vZs_len, List.length_map, List.length_range]
theorem zrow_get {n : Nat} {f : Nat → Int} {i : Nat} (hi : i < n) : (vZs ((List.range n).map f))[i]? = some (vI (f i)) := by
  unfold vZs
  rw [List.getElem?_map, List.getElem?_map, List.getElem?_range hi]; rfl
theorem zrow_drop {n : Nat} {f : Nat → Int} : (vZs ((List.range (n + 1)).map f)).dropLast = vZs ((List.range n).map f) := by
  unfold vZs
  rw [List.range_succ, List.map_append, List.map_append]
  show (List.map vI (List.map f (List.range n)) ++ [vI (f n)]).dropLast = _
  rw [List.dropLast_concat]
/-- what a remainder's loop keeps -/
structure RestI (F G : List Int) (b g : Nat) (r : List Int) : Prop where
  tr : TrZ r
  c : ∃ c, c + r.length ≤ F.length ∧ ∀ i, (zf r i).natAbs ≤ 2 ^ (b + c * (g + 1))
  e : ∃ (s : Rat) (Q : Pol), s ≠ 0 ∧ cst s * pz F = Q * pz G + pz r
/-- and what comes out -/
structure RestO (F G r : List Int) : Prop where
  tr : TrZ r
  lt : r.length < G.length
  pr : r = [] ∨ Prim (zf r)
  e : ∃ (s c : Rat) (Q : Pol), s ≠ 0 ∧ c ≠ 0 ∧ cst s * pz F = Q * pz G + cst c * pz r
theorem RestI.out {F G r : List Int} {b g : Nat} (h : RestI F G b g r) (hl : r.length < G.length) : RestO F G (primZ r) := by
  refine ⟨primZ_tr h.tr, by rw [primZ_len]; exact hl, ?_, ?_⟩
  · by_cases h0 : r = []
    · subst h0; exact .inl rfl
    · exact .inr (primZ_prim h.tr h0)
  · obtain ⟨s, Q, h1, h2⟩ := h.e
    by_cases h0 : r = []
    · subst h0
      exact ⟨s, 1, Q, h1, by decide, by rw [h2, primZ_nil, ← one_eq]; grind⟩
    · have hp := h.tr.g_pos h0
      refine ⟨s, ((gcdN (zf r) r.length : Nat) : Rat), Q, h1, fun z => ?_, by rw [h2, ← primZ_pol h.tr h0]⟩
      have : ((gcdN (zf r) r.length : Nat) : Rat) = ((0 : Nat) : Rat) := z
      have := Rat.natCast_inj.mp this
      omega
theorem pz_c (l : List Int) (i : Nat) : (pz l).c i = ((zf l i : Int) : Rat) := pz_is l i
theorem abs_div_le (a : Int) (c : Nat) : (a / (c : Int)).natAbs ≤ a.natAbs ∨ ¬ ((c : Int) ∣ a) := by
  by_cases h : (c : Int) ∣ a
  · by_cases h0 : (c : Int) = 0
    · left; rw [h0]; simp
    · exact .inl (ediv_abs _ _ h h0)
  · exact .inr h
/-- one step of the remainder -/
def hZ (r G : List Int) (tm fc : Int) (sh : Nat) (t : Nat) : Int := tm * zf r t - (if sh ≤ t then fc * zf G (t - sh) else 0)
def hZj (r G : List Int) (tm fc : Int) (sh j : Nat) (t : Nat) : Int := tm * zf r t - (if sh ≤ t ∧ t - sh < j then fc * zf G (t - sh) else 0)
theorem hZj_zero (r G : List Int) (tm fc : Int) (sh t : Nat) : hZj r G tm fc sh 0 t = tm * zf r t := by unfold hZj; rw [if_neg (by omega)]; omega
theorem hZj_full (r G : List Int) (tm fc : Int) (sh t : Nat) : hZj r G tm fc sh G.length t = hZ r G tm fc sh t := by
  unfold hZj hZ
  by_cases h : sh ≤ t
  · rw [if_pos h]
    by_cases h2 : t - sh < G.length
    · rw [if_pos ⟨h, h2⟩]
    · rw [if_neg (fun z => h2 z.2), zf_ge (l := G) (by omega), Int.mul_zero]
  · rw [if_neg h, if_neg (fun z => h z.1)]
theorem hZj_step (r G : List Int) (tm fc : Int) (sh j t : Nat) : hZj r G tm fc sh (j + 1) t = if t = sh + j then hZj r G tm fc sh j (sh + j) - fc * zf G j else hZj r G tm fc sh j t := by
  unfold hZj
  by_cases h : t = sh + j
  · subst h
    rw [if_pos rfl, if_pos ⟨by omega, by omega⟩, if_neg (by omega), show sh + j - sh = j by omega]; omega
  · rw [if_neg h]
    by_cases h1 : sh ≤ t ∧ t - sh < j
    · rw [if_pos h1, if_pos ⟨h1.1, by omega⟩]
    · rw [if_neg h1, if_neg (by omega)]
theorem RestI.next {F G r : List Int} {b g k : Nat} {cm : Nat} (h : RestI F G b g r) (hg : ∀ i, (zf G i).natAbs ≤ 2 ^ g) (hG : TrZ G) (hG0 : G ≠ []) (hle : G.length ≤ r.length) (hcm : cm = Nat.gcd (zf G (G.length - 1)).natAbs (zf r (r.length - 1)).natAbs)
    (hk : k ≤ r.length) (hz : ∀ t, k ≤ t → hZ r G (zf G (G.length - 1) / (cm : Int)) (zf r (r.length - 1) / (cm : Int)) (r.length - G.length) t = 0)
    (hex : k = 0 ∨ hZ r G (zf G (G.length - 1) / (cm : Int)) (zf r (r.length - 1) / (cm : Int)) (r.length - G.length) (k - 1) ≠ 0) :
    RestI F G b g ((List.range k).map (hZ r G (zf G (G.length - 1) / (cm : Int)) (zf r (r.length - 1) / (cm : Int)) (r.length - G.length))) ∧ k < r.length := by
  have hGl : 0 < G.length := List.length_pos_iff.mpr hG0
  have hh : zf G (G.length - 1) ≠ 0 := by
    rcases hG with z | z
    · exact absurd z hG0
    · exact z
  have hd1 : (cm : Int) ∣ zf G (G.length - 1) := by rw [hcm]; exact Int.ofNat_dvd_left.mpr (Nat.gcd_dvd_left _ _)
  have hd2 : (cm : Int) ∣ zf r (r.length - 1) := by rw [hcm]; exact Int.ofNat_dvd_left.mpr (Nat.gcd_dvd_right _ _)
  have hc0 : (cm : Int) ≠ 0 := by
    have : 0 < cm := by rw [hcm]; exact Nat.gcd_pos_of_pos_left _ (Int.natAbs_pos.mpr hh)
    omega
  have e1 := Int.ediv_mul_cancel hd1
  have e2 := Int.ediv_mul_cancel hd2
  have a1 := ediv_abs _ _ hd1 hc0
  have a2 := ediv_abs _ _ hd2 hc0
  generalize htm : zf G (G.length - 1) / (cm : Int) = tm at *
  generalize hfc : zf r (r.length - 1) / (cm : Int) = fc at *
  have htm0 : tm ≠ 0 := fun z => by rw [z, Int.zero_mul] at e1; exact hh e1.symm
  have htop : hZ r G tm fc (r.length - G.length) (r.length - 1) = 0 := by
    unfold hZ
    rw [if_pos (by omega), show r.length - 1 - (r.length - G.length) = G.length - 1 by omega, ← e1, ← e2]
    have : tm * (fc * (cm : Int)) = fc * (tm * (cm : Int)) := by rw [Int.mul_left_comm]
    omega
  have hkl : k < r.length := by
    rcases Nat.lt_or_ge k r.length with z | z
    · exact z
    · exfalso
      have : k = r.length := by omega
      rcases hex with y | y
      · omega
      · rw [this] at y; exact y htop
  obtain ⟨c, hc1, hc2⟩ := h.c
  obtain ⟨s, Q, hs, hQ⟩ := h.e
  have zr : ∀ i, zf ((List.range k).map (hZ r G tm fc (r.length - G.length))) i = hZ r G tm fc (r.length - G.length) i := fun i => by
    rw [zf_range]
    split
    · rfl
    · exact (hz i (by omega)).symm
  refine ⟨⟨?_, ⟨c + 1, ?_, fun i => ?_⟩, ⟨s * (tm : Rat), cst (tm : Rat) * Q + cst (fc : Rat) * xk (r.length - G.length), ?_, ?_⟩⟩, hkl⟩
  · by_cases hk0 : k = 0
    · subst hk0; exact .inl rfl
    · refine .inr ?_
      rw [List.length_map, List.length_range, zr]
      rcases hex with y | y
      · exact absurd y hk0
      · exact y
  · rw [List.length_map, List.length_range]; omega
  · rw [zr]
    have b1 := Nat.le_trans a1 (hg (G.length - 1))
    have b2 := Nat.le_trans a2 (hc2 (r.length - 1))
    have e3 : b + (c + 1) * (g + 1) = (b + c * (g + 1)) + g + 1 := by rw [Nat.add_mul]; omega
    have e4 : 2 ^ (b + (c + 1) * (g + 1)) = 2 ^ (b + c * (g + 1)) * 2 ^ g * 2 := by rw [e3, Nat.pow_succ, Nat.pow_add]
    have m1 : tm.natAbs * (zf r i).natAbs ≤ 2 ^ g * 2 ^ (b + c * (g + 1)) := Nat.mul_le_mul b1 (hc2 i)
    unfold hZ
    rw [e4]
    split
    · have m2 : fc.natAbs * (zf G (i - (r.length - G.length))).natAbs ≤ 2 ^ (b + c * (g + 1)) * 2 ^ g := Nat.mul_le_mul b2 (hg _)
      have m3 := Int.natAbs_sub_le (tm * zf r i) (fc * zf G (i - (r.length - G.length)))
      rw [Int.natAbs_mul, Int.natAbs_mul] at m3
      rw [Nat.mul_comm (2 ^ g)] at m1
      omega
    · rw [Int.sub_zero, Int.natAbs_mul]
      rw [Nat.mul_comm (2 ^ g)] at m1
      omega
  · have : (tm : Rat) ≠ 0 := fun z => htm0 (Rat.intCast_eq_zero_iff.mp z)
    grind
  · have e5 : pz ((List.range k).map (hZ r G tm fc (r.length - G.length))) = cst (tm : Rat) * pz r - cst (fc : Rat) * xk (r.length - G.length) * pz G := Pol.ext fun i => by
      rw [pz_c, zr, sub_c, cst_mul_c, pz_c]
      have : cst (fc : Rat) * xk (r.length - G.length) * pz G = cst (fc : Rat) * (xk (r.length - G.length) * pz G) := by grind
      rw [this, cst_mul_c, xk_mul_c]
      unfold hZ
      rw [Rat.intCast_sub, Rat.intCast_mul]
      split
      · rw [Rat.intCast_mul, pz_c]
      · have : (((0 : Int)) : Rat) = 0 := rfl
        rw [this]; grind
    rw [e5, cst_mul]
    grind
section
variable {P : Program} {w : World} {K : PySem.W.Frag} {mg : Str → Option Value} {base : Heap}
theorem integer_rest_c (V : Ev P K mg) (Fl Gl : List Int) (hF : TrZ Fl) (hG : TrZ Gl) (hG0 : Gl ≠ []) (b g : Nat) (hb : ∀ i, (zf Fl i).natAbs ≤ 2 ^ b) (hg : ∀ i, (zf Gl i).natAbs ≤ 2 ^ g) (hlF : Fl.length ≤ 1000) (hlG : Gl.length ≤ 1000) (hs : b + Fl.length * (g + 1) + g + 2 ≤ 134217728) :
    CalT P w K mg base 46 "_integer_rest" [vLs (vZs Fl), vLs (vZs Gl)] [] (vEx (fun r => vLs (vZs r)) (RestO Fl Gl)) := by
  obtain ⟨fd, F⟩ := V.W.fd_integer_rest
  have nd := sc_integer_rest.nd
  have hGl : 0 < Gl.length := List.length_pos_iff.mpr hG0
  refine mk_cal (fn_V F sc_integer_rest rfl fun cdv A outer s H E Q hr q => ?_) V.W.gl_integer_rest F.kp (b2 F)
  have D := divOk0 (w := w) (base := base) (outer := outer) (H := H) (E := E) V sc_integer_rest hr (by omega)
  refine s_asg 2 (e_bty c_list rfl V.W.fr_list PyProof.Rows.boot_list (a_cons (e_sqL (e_nm 0)) a_nil)) ?_ nd
  refine s_asg 3 (P := vI (zf Gl (Gl.length - 1))) (e_ix (i := Gl.length - 1) (e_sqL (e_nm 1)) (e_eq (e_bin (e_blt (c_len rfl) rfl V.W.fr_len PySem.boot_len (a_cons (e_sqL (e_nm 1)) a_nil)) (e_int (i := 1)) o_sub) (by rw [vZs_len, sub1_cast hGl])) (vZs_get (by omega))) ?_ nd
  refine s_while (I := List Int) (RestI Fl Gl b g) (fun r => [some (vLs (vZs Fl)), some (vLs (vZs Gl)), some (vLs (vZs r)), some (vI (zf Gl (Gl.length - 1))), none, none, none, none, none, none]) (fun _ => []) (fun r => r.length) (fun r => decide (((Gl.length : Nat) : Int) ≤ ((r.length : Nat) : Int))) Fl ⟨hF, ⟨0, by omega, fun i => by rw [Nat.zero_mul, Nat.add_zero]; exact hb i⟩, ⟨1, 0, by decide, by rw [← one_eq]; grind⟩⟩ ⟨rfl, rfl, rfl, rfl, trivial⟩ rfl (fun r hr2 => ?_) (fun Hb r sm hI hk => ?_) (fun Hb r sm hI hk => ?_) .never
  · exact t_eq (t_cmp (e_blt (c_len rfl) rfl V.W.fr_len PySem.boot_len (a_cons (e_sqL (e_nm 2)) a_nil)) (e_blt (c_len rfl) rfl V.W.fr_len PySem.boot_len (a_cons (e_sqL (e_nm 1)) a_nil)) o_ge) (by rw [vZs_len, vZs_len])
  · have hle : Gl.length ≤ r.length := by have := of_decide_eq_true hk; omega
    have hrl : 0 < r.length := by omega
    obtain ⟨c, hc1, hc2⟩ := hI.c
    have hc3 : c * (g + 1) ≤ Fl.length * (g + 1) := Nat.mul_le_mul_right _ (by omega)
    have hrb : ∀ i, (zf r i).natAbs ≤ 2 ^ (b + Fl.length * (g + 1)) := fun i => Nat.le_trans (hc2 i) (Nat.pow_le_pow_right (by decide) (by omega))
    have hla : ∀ {M : MCtx} {G : Ctx}, True := trivial
    have hh : zf Gl (Gl.length - 1) ≠ 0 := by
      rcases hG with z | z
      · exact absurd z hG0
      · exact z
    obtain ⟨cm, hcm⟩ : ∃ cm, cm = Nat.gcd (zf Gl (Gl.length - 1)).natAbs (zf r (r.length - 1)).natAbs := ⟨_, rfl⟩
    have hd1 : (cm : Int) ∣ zf Gl (Gl.length - 1) := by rw [hcm]; exact Int.ofNat_dvd_left.mpr (Nat.gcd_dvd_left _ _)
    have hd2 : (cm : Int) ∣ zf r (r.length - 1) := by rw [hcm]; exact Int.ofNat_dvd_left.mpr (Nat.gcd_dvd_right _ _)
    have hc0 : (cm : Int) ≠ 0 := by
      have : 0 < cm := by rw [hcm]; exact Nat.gcd_pos_of_pos_left _ (Int.natAbs_pos.mpr hh)
      omega
    have a1 := ediv_abs _ _ hd1 hc0
    have a2 := ediv_abs _ _ hd2 hc0
    refine s_asg 4 (P := vI (cm : Int)) (e_eq (e_bfun c_gcd rfl V.W.m.gcd (a_cons (e_nm 3) (a_cons (e_ix (i := r.length - 1) (e_sqL (e_nm 2)) (e_eq (e_bin (e_blt (c_len rfl) rfl V.W.fr_len PySem.boot_len (a_cons (e_sqL (e_nm 2)) a_nil)) (e_int (i := 1)) o_sub) (by rw [vZs_len, sub1_cast hrl])) (vZs_get (by omega))) a_nil))) (by rw [← hcm])) ?_ nd
    refine s_asg 5 (e_bin (e_nm 3) (e_nm 4) (o_fdivX D hc0 (Int.ediv_mul_cancel hd1).symm)) ?_ nd
    refine s_asg 6 (e_bin (e_ix (i := r.length - 1) (e_sqL (e_nm 2)) (e_eq (e_bin (e_blt (c_len rfl) rfl V.W.fr_len PySem.boot_len (a_cons (e_sqL (e_nm 2)) a_nil)) (e_int (i := 1)) o_sub) (by rw [vZs_len, sub1_cast hrl])) (vZs_get (by omega))) (e_nm 4) (o_fdivX D hc0 (Int.ediv_mul_cancel hd2).symm)) ?_ nd
    have hnx := fun k h1 h2 h3 => hI.next (k := k) hg hG hG0 hle hcm h1 h2 h3
    have btm : (zf Gl (Gl.length - 1) / (cm : Int)).natAbs < 2 ^ (g + 1) := Nat.lt_of_le_of_lt (Nat.le_trans a1 (hg _)) (Nat.pow_lt_pow_right (by decide) (by omega))
    have bfc : (zf r (r.length - 1) / (cm : Int)).natAbs < 2 ^ (b + Fl.length * (g + 1) + 1) := Nat.lt_of_le_of_lt (Nat.le_trans a2 (hrb _)) (Nat.pow_lt_pow_right (by decide) (by omega))
    generalize htm : zf Gl (Gl.length - 1) / (cm : Int) = tm at *
    generalize hfc : zf r (r.length - 1) / (cm : Int) = fc at *
    obtain ⟨sh, hsh⟩ : ∃ sh, r.length = Gl.length + sh := ⟨r.length - Gl.length, by omega⟩
    have hsh2 : r.length - Gl.length = sh := by omega
    rw [hsh2] at hnx
    refine s_asg 7 (P := vI ((sh : Nat) : Int)) (e_eq (e_bin (e_blt (c_len rfl) rfl V.W.fr_len PySem.boot_len (a_cons (e_sqL (e_nm 2)) a_nil)) (e_blt (c_len rfl) rfl V.W.fr_len PySem.boot_len (a_cons (e_sqL (e_nm 1)) a_nil)) o_sub) (by rw [vZs_len, vZs_len]; congr 2; omega)) ?_ nd
    refine s_lcG 2 (own := [("n", 9)]) (vs := [9]) (n := r.length) (Zp := fun i => vI (tm * zf r i)) (pit_n (pi_seq (e_sqL (e_nm 2))) vZs_len) (by omega) nd (blk0 (by decide +kernel)) rfl (gow_name 9) (fun _ _ _ _ _ => pg_name (i := 9) nd rfl (Or.inl rfl)) (fun s2 H2 C cl fp i hi => ?_) (fun ad => ?_)
    · exact e_bin (e_nm 5) (e_eq (e_nm 9) (vZs_at (by rw [vZs_len]; exact hi))) (o_mul (mulx_ok btm (b := b + Fl.length * (g + 1) + 1) (Nat.lt_of_le_of_lt (hrb i) (Nat.pow_lt_pow_right (by decide) (by omega))) (by omega)))
    rw [range_vZs]
    refine s_for (I := Unit) (p_enum (e_sqL (e_nm 1)) rfl V.W.fr_enumerate) (pg_tup rfl (pgs_cons (pg_name (i := 8) nd rfl (Or.inl rfl)) (pgs_cons (pg_name (i := 9) nd rfl (Or.inl rfl)) pgs_nil))) (fun i G => setN G [8, 9] [vI ((i : Nat) : Int), atP (vZs Gl) i]) (go_tup [8, 9] (fun _ => rfl))
      (fun _ _ => True) (fun _ _ => [some (vLs (vZs Fl)), some (vLs (vZs Gl)), some (vAt ad), some (vI (zf Gl (Gl.length - 1))), none, some (vI tm), some (vI fc), some (vI ((sh : Nat) : Int)), none, none]) (fun j _ => [.l ad (vZs ((List.range r.length).map (hZj r Gl tm fc sh j)))]) () trivial ⟨rfl, rfl, rfl, rfl, rfl, rfl, rfl, trivial⟩ (by
        rw [show hZj r Gl tm fc sh 0 = fun t => tm * zf r t from funext fun t => hZj_zero r Gl tm fc sh t]) (fun Hb2 j _ sm2 hj _ => ?_) (fun Hb2 _ sm2 _ => ?_) .never
    · rw [vZs_at hj]
      rw [vZs_len] at hj
      refine s_setL 0 (i := sh + j) rfl (e_bin (e_ixM 0 (i := sh + j) rfl (e_nm 2) (e_eq (e_bin (e_nm (P := vI ((sh : Nat) : Int)) 7) (e_nm (P := vI ((j : Nat) : Int)) 8) o_add) (by congr 1)) (zrow_get (by omega))) (e_bin (e_nm (P := vI fc) 6) (e_nm (P := vI (zf Gl j)) 9) (o_mul (mulx_ok bfc (b := g + 1) (Nat.lt_of_le_of_lt (hg j) (Nat.pow_lt_pow_right (by decide) (by omega))) (by omega)))) o_sub) (e_nm 2) (e_eq (e_bin (e_nm (P := vI ((sh : Nat) : Int)) 7) (e_nm (P := vI ((j : Nat) : Int)) 8) o_add) (by congr 1)) (by rw [zrow_len]; omega) ?_
      refine nx_ok () trivial rfl ⟨rfl, rfl, rfl, rfl, rfl, rfl, rfl, trivial⟩ ?_
      show [MT.l ad _] = [MT.l ad _]
      rw [zrow_set (g := hZj r Gl tm fc sh (j + 1)) fun t ht => hZj_step r Gl tm fc sh j t]
    rw [vZs_len, show hZj r Gl tm fc sh Gl.length = hZ r Gl tm fc sh from funext fun t => hZj_full r Gl tm fc sh t]
    refine s_while (I := Nat) (fun k => k ≤ r.length ∧ ∀ t, k ≤ t → hZ r Gl tm fc sh t = 0) (fun _ => [some (vLs (vZs Fl)), some (vLs (vZs Gl)), some (vAt ad), some (vI (zf Gl (Gl.length - 1))), none, none, none, none, none, none]) (fun k => [.l ad (vZs ((List.range k).map (hZ r Gl tm fc sh)))]) (fun k => k) (fun k => decide (0 < ((k : Nat) : Int)) && decide (hZ r Gl tm fc sh (k - 1) = 0)) r.length ⟨Nat.le_refl _, fun t ht => by
        unfold hZ
        rw [zf_ge (l := r) ht, Int.mul_zero]
        split
        · rw [zf_ge (l := Gl) (by omega), Int.mul_zero]; rfl
        · rfl⟩ ⟨rfl, rfl, rfl, rfl, trivial⟩ rfl (fun k hk2 => ?_) (fun Hb3 k sm3 hk2 hk3 => ?_) (fun Hb3 k sm3 hk2 hk3 => ?_) .never
    · refine t_w (w_and (t_cmp (e_eq (e_lenM 0 rfl rfl V.W.fr_len (e_nm 2)) (by rw [zrow_len])) (e_int (i := 0)) o_gt) fun h => w_and1 (t_cmp (e_ixM 0 (i := k - 1) rfl (e_nm 2) (e_eq (e_bin (e_lenM 0 rfl rfl V.W.fr_len (e_nm 2)) (e_int (i := 1)) o_sub) ?_) (zrow_get ?_)) (e_int (i := 0)) o_eq))
      · have := of_decide_eq_true h
        rw [zrow_len, sub1_cast (by omega)]
      · have := of_decide_eq_true h
        omega
    · have h1 : 0 < k := by
        have := of_decide_eq_true (Bool.and_eq_true_iff.mp hk3).1
        omega
      have h2 := of_decide_eq_true (Bool.and_eq_true_iff.mp hk3).2
      obtain ⟨k', rfl⟩ : ∃ k', k = k' + 1 := ⟨k - 1, by omega⟩
      refine s_pop 0 rfl (e_nm 2) (by rw [zrow_len]; omega) ?_
      have hz2 : ∀ t, k' ≤ t → hZ r Gl tm fc sh t = 0 := fun t ht => by
        by_cases e : t = k'
        · rw [e]; exact h2
        · exact hk2.2 t (by omega)
      refine nx_ok k' ⟨⟨by omega, hz2⟩, by omega⟩ rfl ⟨rfl, rfl, rfl, rfl, trivial⟩ ?_
      show [MT.l ad _] = [MT.l ad _]
      rw [zrow_drop]
    · obtain ⟨n1, n2⟩ := hnx k hk2.1 hk2.2 (by
        by_cases e : k = 0
        · exact .inl e
        · refine .inr fun z => ?_
          rw [z] at hk3
          have : decide (0 < ((k : Nat) : Int)) = true := decide_eq_true (by omega)
          rw [this] at hk3
          exact absurd hk3 (by decide))
      refine s_calm 2 rfl ?_
      exact nx_ok2 (sm2.trans sm3) ((List.range k).map (hZ r Gl tm fc sh)) ⟨n1, by rw [List.length_map, List.length_range]; exact n2⟩ rfl ⟨rfl, rfl, rfl, rfl, trivial⟩ rfl
  · have hlt : r.length < Gl.length := by have := of_decide_eq_false hk; omega
    refine s_retV (e_ex (F := fun r => vLs (vZs r)) (primZ r) (e_call (primitive_row_c V r hI.tr (by omega)) hr (by omega) rfl (a_cons (e_nm 2) a_nil)) (hI.out hlt)) rfl fun v H' s' pv => q v H' (sm.trans s') pv
end
end K31
set_option Elab.async false
set_option linter.all false
set_option maxRecDepth 100000
set_option maxHeartbeats 2000000
/-! W11: common_divisor. -/
namespace K31
open PySem PySem.Spec L2
theorem sn_le (B : Nat) : ∀ (k n : Nat) (f : ZS), (∀ i, n ≤ i → f i = 0) → (∀ i, (f i).natAbs ≤ B) → sn k f ≤ n * B
  | 0, n, f, _, _ => Nat.zero_le _
  | k + 1, n, f, h, hb => by
    rw [sn_succ]
    cases n with
    | zero =>
      have h1 := sn_le B k 0 (zt f) (fun i hi => h (i + 1) (by omega)) fun i => hb (i + 1)
      have h2 := h 0 (Nat.le_refl _)
      rw [h2]; simp at h1 ⊢; omega
    | succ n =>
      have h1 := sn_le B k n (zt f) (fun i hi => h (i + 1) (by omega)) fun i => hb (i + 1)
      have h2 := hb 0
      rw [Nat.add_mul]; omega
def bbOf (s n : Nat) : Nat := (s + 8) * (2 * n)
/-- the letters of the gcd's loop -/
structure GcdI (A B : List Int) (s n : Nat) (fg : List Int × List Int) : Prop where
  trF : TrZ fg.1
  neF : fg.1 ≠ []
  trG : TrZ fg.2
  prG : fg.2 = [] ∨ Prim (zf fg.2)
  bF : ∀ i, (zf fg.1 i).natAbs ≤ 2 ^ bbOf s n
  bG : ∀ i, (zf fg.2 i).natAbs ≤ 2 ^ bbOf s n
  lF : fg.1.length ≤ n
  lG : fg.2.length ≤ n
  r : (fg.1 = A ∧ fg.2 = B) ∨ Rel (pz B) (pz A) (pz fg.1) (pz fg.2)
theorem GcdI.next {A B : List Int} {s n : Nat} {F G R : List Int} (h : GcdI A B s n (F, G)) (hA : ∀ i, (zf A i).natAbs ≤ 2 ^ s) (hB : ∀ i, (zf B i).natAbs ≤ 2 ^ s) (tA : TrZ A) (tB : TrZ B) (lA : A.length ≤ n) (lB : B.length ≤ n) (hn : n ≤ 64)
    (hG : G ≠ []) (hR : RestO F G R) : GcdI A B s n (G, R) := by
  obtain ⟨s', c, Q, hs', hc, e⟩ := hR.e
  have hlG := pz_len h.trG
  have hlR := pz_len hR.tr
  have hlt : (pz R).len < (pz G).len := by rw [hlG, hlR]; exact hR.lt
  have hGn : pz G ≠ 0 := fun z => by rw [z, len_zero] at hlt; omega
  have rel : Rel (pz B) (pz A) (pz G) (pz R) := by
    rcases h.r with ⟨e1, e2⟩ | r
    · have e1 : F = A := e1
      have e2 : G = B := e2
      subst e1 e2
      exact Rel.first hs' hc e hlt
    · exact Rel.step r hs' hc e hGn hlt
  refine ⟨h.trG, hG, hR.tr, hR.pr, h.bG, fun i => ?_, h.lG, Nat.le_of_lt (Nat.lt_of_lt_of_le hR.lt h.lG), .inr rel⟩
  rcases hR.pr with e | p
  · have e : R = [] := e
    subst e
    show (zf [] i).natAbs ≤ _
    rw [zf_ge (Nat.zero_le _)]; simp
  · have hw : ∀ (L : List Int), L.length ≤ n → (∀ i, (zf L i).natAbs ≤ 2 ^ s) → ∀ k, sn k (zf L) ≤ 2 ^ (s + 6) := fun L hL hb k => by
      have h1 := sn_le (2 ^ s) k L.length (zf L) (fun i hi => zf_ge hi) hb
      have h2 : L.length * 2 ^ s ≤ 64 * 2 ^ s := Nat.mul_le_mul_right _ (by omega)
      have h3 : 2 ^ (s + 6) = 64 * 2 ^ s := by rw [Nat.pow_add]; omega
      omega
    have hsz := rel.size (pz_is B) (pz_is A) (pz_is R) p (hw B lB hB) (hw A lA hA) (Nat.pow_pos (by decide)) i
    refine Nat.le_trans hsz ?_
    have e4 : 4 * 2 ^ (s + 6) = 2 ^ (s + 8) := by rw [show s + 8 = s + 6 + 2 by omega, Nat.pow_add 2 (s + 6) 2]; omega
    rw [e4, ← Nat.pow_mul]
    refine Nat.pow_le_pow_right (by decide) ?_
    unfold bbOf
    refine Nat.mul_le_mul_left _ ?_
    have l1 := pz_len tA
    have l2 := pz_len tB
    omega
/-- what a greatest common divisor is, and its size -/
structure GcdO (p q : Pol) (t : Nat) (d : Pol) : Prop where
  mon : d.lc = 1
  l : d ∣ p
  r : d ∣ q
  c : ∃ u v, d = u * p + v * q
  z : PZ t d
theorem PZ.one {t : Nat} : PZ t 1 := ⟨1, Nat.one_pos, Nat.one_le_two_pow, fun i => by
  rw [one_c]
  split
  · exact ⟨1, by rw [show ((1 : Nat) : Rat) = 1 from rfl]; grind, Nat.one_le_two_pow⟩
  · exact Fr.zero⟩
theorem const_of {p : Pol} (h : p.len = 1) : p = cst p.lc := by
  have := len_one (p := p) (by omega)
  unfold Pol.lc
  rw [h]; exact this
theorem one_lc : (1 : Pol).lc = 1 := cst_lc 1
section
variable {P : Program} {w : World} {K : PySem.W.Frag} {mg : Str → Option Value} {base : Heap}
theorem common_divisor_c (V : Ev P K mg) (p q : Pol) (hp : p ≠ 0) (hq : q ≠ 0) {s0 n : Nat} (zp : PZ s0 p) (zq : PZ s0 q) (lp : p.len ≤ n) (lq : q.len ≤ n) (hn : n ≤ 64) (hs : bbOf s0 n + n * (bbOf s0 n + 1) + bbOf s0 n + 2 ≤ 134217728) (hs2 : s0 < SZ - 1) :
    CalT P w K mg base 48 "common_divisor" [vP K p, vP K q] [] (vEx (vP K) (GcdO p q (bbOf s0 n))) := by
  obtain ⟨fd, F⟩ := V.W.fd_common_divisor
  have nd := sc_common_divisor.nd
  have lp0 := Pol.len_pos hp
  have lq0 := Pol.len_pos hq
  refine mk_cal (fn_V F sc_common_divisor rfl fun cdv A outer s H E Q hr q' => ?_) V.W.gl_common_divisor F.kp (b2 F)
  refine s_ifR (k := false) (t_w (w_or (j := false) (k := false) (t_val (e_eq (e_mth0 (ks := ["row"]) (P_is_zero V p) rfl (by decide) hr (by omega) (e_nm 0)) (by rw [decide_eq_false hp]))) fun _ => w_or1 (t_val (e_eq (e_mth0 (ks := ["row"]) (P_is_zero V q) rfl (by decide) hr (by omega) (e_nm 1)) (by rw [decide_eq_false hq]))))) (fun z => absurd z Bool.false_ne_true) fun _ => ?_
  refine s_ifR (k := decide (((p.len : Int) - 1) = 0) || decide (((q.len : Int) - 1) = 0)) (t_w (w_or (t_cmp (e_mth0 (ks := ["row"]) (P_degree V p) rfl (by decide) hr (by omega) (e_nm 0)) (e_int (i := 0)) o_eq) fun _ => w_or1 (t_cmp (e_mth0 (ks := ["row"]) (P_degree V q) rfl (by decide) hr (by omega) (e_nm 1)) (e_int (i := 0)) o_eq))) (fun h => ?_) fun h => ?_
  · refine s_retV (R := vEx (vP K) (GcdO p q (bbOf s0 n))) (e_ex (1 : Pol) ?_ ?_) rfl q'
    · refine e_eq (e_mk (P_mkI V [1] (show (1 : Nat) ≤ 100000 by decide)) hr (by omega) rfl (a_cons (e_sqT (e_tup (a_cons (e_int (i := 1)) a_nil) (show (1 : Nat) ≤ 100 by decide))) a_nil)) ?_
      rfl
    · refine ⟨one_lc, ⟨p, by grind⟩, ⟨q, by grind⟩, ?_, PZ.one⟩
      rcases Bool.or_eq_true_iff.mp h with h | h
      · have e := of_decide_eq_true h
        have e1 : p.len = 1 := by omega
        have e2 := const_of e1
        have e3 := cst_inv (Pol.lc_ne hp)
        exact ⟨cst p.lc⁻¹, 0, by rw [← e2] at e3; grind⟩
      · have e := of_decide_eq_true h
        have e1 : q.len = 1 := by omega
        have e2 := const_of e1
        have e3 := cst_inv (Pol.lc_ne hq)
        exact ⟨0, cst q.lc⁻¹, by rw [← e2] at e3; grind⟩
  have hAa := primP_abs zp hp
  have hBa := primP_abs zq hq
  have tA := primP_tr hp
  have tB := primP_tr hq
  have pB := primP_prim hq
  obtain ⟨la, hla, ea⟩ := primP_pol hp
  obtain ⟨lb, hlb, eb⟩ := primP_pol hq
  have lA : (primP p).length ≤ n := by rw [primP_len]; exact lp
  have lB : (primP q).length ≤ n := by rw [primP_len]; exact lq
  have hA0 : primP p ≠ [] := fun z => by have := primP_len p; rw [z] at this; simp at this; omega
  have hB0 : primP q ≠ [] := fun z => by have := primP_len q; rw [z] at this; simp at this; omega
  refine s_par 2 3 (Pa := vLs (vZs (primP p))) (Pb := vLs (vZs (primP q))) (e_bty c_list rfl V.W.fr_list PyProof.Rows.boot_list (a_cons (e_sqT (e_ix (i := 1) (e_sqT (e_mth0 (ks := ["row"]) (P_primitive V p hp zp hs2 (by omega)) rfl (by decide) hr (by omega) (e_nm 0))) (e_int (i := 1)) rfl)) a_nil)) (e_bty c_list rfl V.W.fr_list PyProof.Rows.boot_list (a_cons (e_sqT (e_ix (i := 1) (e_sqT (e_mth0 (ks := ["row"]) (P_primitive V q hq zq hs2 (by omega)) rfl (by decide) hr (by omega) (e_nm 1))) (e_int (i := 1)) rfl)) a_nil)) ?_ nd
  have sle : 2 ^ s0 ≤ 2 ^ bbOf s0 n := Nat.pow_le_pow_right (by decide) (by
    unfold bbOf
    have : s0 + 8 ≤ (s0 + 8) * (2 * n) := Nat.le_mul_of_pos_right _ (by omega)
    omega)
  refine s_while (I := List Int × List Int) (GcdI (primP p) (primP q) s0 n) (fun fg => [some (vP K p), some (vP K q), some (vLs (vZs fg.1)), some (vLs (vZs fg.2)), none, none]) (fun _ => []) (fun fg => fg.2.length) (fun fg => decide (0 < ((fg.2.length : Nat) : Int))) (primP p, primP q)
    ⟨tA, hA0, tB, .inr pB, fun i => Nat.le_trans (hAa i) sle, fun i => Nat.le_trans (hBa i) sle, lA, lB, .inl ⟨rfl, rfl⟩⟩ ⟨rfl, rfl, rfl, rfl, trivial⟩ rfl (fun fg hI => ?_) (fun Hb fg sm hI hk => ?_) (fun Hb fg sm hI hk => ?_) .never
  · exact t_eq (t_cmp (e_blt (c_len rfl) rfl V.W.fr_len PySem.boot_len (a_cons (e_sqL (e_nm 3)) a_nil)) (e_int (i := 0)) o_gt) (by rw [vZs_len])
  · obtain ⟨Fl, Gl⟩ := fg
    have hG0 : Gl ≠ [] := fun z => by
      have := of_decide_eq_true hk
      rw [z] at this
      exact absurd (show (0 : Int) < 0 from this) (by decide)
    have lF' : Fl.length ≤ n := hI.lF
    have lG' : Gl.length ≤ n := hI.lG
    refine s_par 2 3 (Pa := vLs (vZs Gl)) (Pb := vEx (fun r => vLs (vZs r)) (RestO Fl Gl)) (e_nm 3) (e_call (integer_rest_c V Fl Gl hI.trF hI.trG hG0 (bbOf s0 n) (bbOf s0 n) hI.bF hI.bG (by omega) (by omega) (by
      have := Nat.mul_le_mul_right (bbOf s0 n + 1) lF'
      omega)) hr (by omega) rfl (a_cons (e_nm 2) (a_cons (e_nm 3) a_nil))) ?_ nd
    refine s_open 3 rfl fun R hR => ?_
    exact nx_ok (Gl, R) ⟨hI.next hAa hBa tA tB lA lB hn hG0 hR, hR.lt⟩ rfl ⟨rfl, rfl, rfl, rfl, trivial⟩ rfl
  · obtain ⟨Fl, Gl⟩ := fg
    have lF' : Fl.length ≤ n := hI.lF
    have hG0 : Gl = [] := by
      have := of_decide_eq_false hk
      exact List.length_eq_zero_iff.mp (by simp at this; simpa using this)
    subst hG0
    have hFl : 0 < Fl.length := List.length_pos_iff.mpr hI.neF
    have hrel : Rel (pz (primP q)) (pz (primP p)) (pz Fl) 0 := by
      rcases hI.r with ⟨_, e2⟩ | r
      · exact absurd e2.symm hB0
      · exact r
    obtain ⟨dB, dA, u, v, huv⟩ := hrel.end_
    have hh : zf Fl (Fl.length - 1) ≠ 0 := by
      rcases hI.trF with z | z
      · exact absurd z hI.neF
      · exact z
    have hhr : ((zf Fl (Fl.length - 1) : Int) : Rat) ≠ 0 := fun z => hh (Rat.intCast_eq_zero_iff.mp z)
    have hlen : (pz Fl).len = Fl.length := pz_len hI.trF
    refine s_asg 4 (P := vI (zf Fl (Fl.length - 1))) (e_ix (i := Fl.length - 1) (e_sqL (e_nm 2)) (e_eq (e_bin (e_blt (c_len rfl) rfl V.W.fr_len PySem.boot_len (a_cons (e_sqL (e_nm 2)) a_nil)) (e_int (i := 1)) o_sub) (by rw [vZs_len, sub1_cast hFl])) (vZs_get (by omega))) ?_ nd
    obtain ⟨h, hhd⟩ : ∃ h, h = zf Fl (Fl.length - 1) := ⟨_, rfl⟩
    rw [← hhd] at hh hhr
    refine s_retV (R := vEx (vP K) (GcdO p q (bbOf s0 n))) (e_ex (cst ((h : Int) : Rat)⁻¹ * pz Fl) ?_ ?_) rfl fun v H' s' pv => q' v H' (sm.trans s') pv
    · refine e_eq (e_mk (P_mk V ((List.range Fl.length).map fun i => ((zf Fl i : Int) : Rat) / ((h : Int) : Rat)) (by rw [List.length_map, List.length_range]; omega)) hr (by omega) rfl (a_cons (e_sqL (e_eq (TyN.ty (n_lcG (own := [("n", 5)]) (vs := [5]) (Zp := fun i => vR K (((zf Fl i : Int) : Rat) / ((h : Int) : Rat))) (pi_seq (e_sqL (e_nm 2))) (by rw [vZs_len]; show Fl.length ≤ 100000; omega) nd (blk0 (by decide +kernel)) rfl (gow_name 5) (fun _ _ _ _ _ => pg_name (i := 5) nd rfl (Or.inl rfl)) (fun s2 H2 C cl fp i hi => ?_))) ?_)) a_nil)) ?_
      · exact e_mk (R_mk2 V (zf Fl i) h hh) hr (by omega) rfl (a_cons (e_eq (e_nm 5) (vZs_at hi)) (a_cons (e_eq (e_nm 4) (by rw [hhd])) a_nil))
      · rw [vZs_len, range_vRs]
      · congr 1
        refine Pol.ext fun i => ?_
        show (ofFn Fl.length _).c i = _
        rw [ofFn_c, cst_mul_c, pz_c]
        split
        · grind
        · rw [zf_ge (l := Fl) (by omega)]
          have : (((0 : Int)) : Rat) = 0 := rfl
          rw [this]; grind
    · have hF0 : pz Fl ≠ 0 := fun z => by rw [z, len_zero] at hlen; omega
      have hlc : (pz Fl).lc = ((h : Int) : Rat) := by
        unfold Pol.lc
        rw [hlen, pz_c, hhd]
      have ei := cst_inv hhr
      have eal := cst_inv hla
      have ebl := cst_inv hlb
      refine ⟨?_, ?_, ?_, ?_, ?_⟩
      · rw [← hlc]; exact monic_of hF0
      · obtain ⟨k, hk⟩ := dA
        exact ⟨cst la * cst ((h : Int) : Rat) * k, by rw [ea, hk]; grind⟩
      · obtain ⟨k, hk⟩ := dB
        exact ⟨cst lb * cst ((h : Int) : Rat) * k, by rw [eb, hk]; grind⟩
      · exact ⟨cst ((h : Int) : Rat)⁻¹ * v * cst la⁻¹, cst ((h : Int) : Rat)⁻¹ * u * cst lb⁻¹, by rw [ea, eb] at *; grind⟩
      · refine ⟨h.natAbs, Int.natAbs_pos.mpr hh, by rw [hhd]; exact hI.bF _, fun i => ?_⟩
        have hsg : ∃ t : Int, (t = 1 ∨ t = -1) ∧ ((h.natAbs : Nat) : Int) = t * h := by
          rcases Int.le_total 0 h with z | z
          · exact ⟨1, .inl rfl, by omega⟩
          · exact ⟨-1, .inr rfl, by omega⟩
        obtain ⟨t, ht, he⟩ := hsg
        refine ⟨t * zf Fl i, ?_, ?_⟩
        · rw [cst_mul_c, pz_c, ← Rat.intCast_natCast, he, Rat.intCast_mul, Rat.intCast_mul]
          grind
        · rw [Int.natAbs_mul]
          have := hI.bF i
          rcases ht with rfl | rfl <;> simpa using this
end
end K31
set_option Elab.async false
set_option linter.all false
set_option maxRecDepth 100000
set_option maxHeartbeats 2000000
/-! W12: RatFun(num, den). -/
namespace K31
open PySem PySem.Spec L2
structure FOk (N D : Pol) : Prop where
  ne : D ≠ 0
  ex : ∃ s0 n s1, PZ s0 N ∧ PZ s0 D ∧ N.len ≤ n ∧ D.len ≤ n ∧ n ≤ 64 ∧ bbOf s0 n + n * (bbOf s0 n + 1) + bbOf s0 n + 2 ≤ 134217728 ∧ PZ s1 (frac N D).num ∧ PZ s1 (frac N D).den ∧ s0 + s1 + bbOf s0 n + 10 < SZ
theorem frac_zero_den {f : RF} (h : f.num = 0) : f.den = 1 := by
  obtain ⟨u, v, e⟩ := f.cop
  have e2 : v * f.den = 1 := by rw [h] at e; grind
  have hv : v ≠ 0 := fun z => by rw [z] at e2; exact one_ne (by grind)
  have h1 := mul_len hv f.den_ne
  rw [e2, one_len] at h1
  have h2 := Pol.len_pos hv
  have h3 := Pol.len_pos f.den_ne
  have h4 : f.den.len = 1 := by omega
  rw [const_of h4, f.mon]; rfl
theorem monic_const {d : Pol} (h : d.lc = 1) (hl : d.len ≤ 1) : d = 1 := by
  have h3 := Pol.len_pos (monic_ne h)
  rw [const_of (p := d) (by omega), h]; rfl
theorem frac_const {N D : Pol} (h : D ≠ 0) (hl : D.len = 1) : (frac N D).den = 1 ∧ (frac N D).num = cst D.lc⁻¹ * N := by
  have hs := frac_spec (N := N) h
  generalize frac N D = f at *
  have hD := const_of hl
  have ei := cst_inv (Pol.lc_ne h)
  have h1 : f.den ∣ D := f.cop.symm.dvd ⟨N, by grind⟩
  have h2 := dvd_len h1 h
  have h3 := monic_const f.mon (by omega)
  refine ⟨h3, ?_⟩
  rw [h3] at hs
  rw [← hD] at ei
  have : N = f.num * D := by grind
  rw [this]; grind
/-- the quotients by the common divisor -/
theorem frac_quot {N D d : Pol} {t : Nat} (h : D ≠ 0) (g : GcdO N D t d) : ∃ kN kD, N = kN * d ∧ D = kD * d ∧ kD ≠ 0 ∧ kD.lc = D.lc ∧ kN = cst kD.lc * (frac N D).num ∧ kD = cst kD.lc * (frac N D).den := by
  obtain ⟨kN, hN⟩ := g.l
  obtain ⟨kD, hD⟩ := g.r
  have hd := monic_ne g.mon
  have hk : kD ≠ 0 := fun z => h (by rw [hD, z]; grind)
  obtain ⟨u, v, huv⟩ := g.c
  have hcop : u * kN + v * kD = 1 := mul_cancel hd (by rw [hN, hD] at huv; grind)
  have hlc : D.lc = kD.lc := by
    rw [hD, mul_lc hd hk, g.mon]; grind
  have hs := frac_spec (N := N) h
  generalize frac N D = f at *
  have hs2 : f.num * kD = kN * f.den := mul_cancel hd (by rw [hN, hD] at hs; grind)
  have h1 : f.den ∣ kD := f.cop.symm.dvd ⟨kN, by grind⟩
  have h2 : kD ∣ f.den := (show Cop kD kN from ⟨v, u, by grind⟩).dvd ⟨f.num, by grind⟩
  obtain ⟨a, ha⟩ := h1
  have ha0 : a ≠ 0 := fun z => hk (by rw [ha, z]; grind)
  have l1 := mul_len f.den_ne ha0
  rw [← ha] at l1
  have l2 := dvd_len h2 f.den_ne
  have l3 := Pol.len_pos ha0
  have l4 : a.len = 1 := by omega
  have ea := const_of l4
  have hlc2 : kD.lc = a.lc := by rw [ha, mul_lc f.den_ne ha0, f.mon]; grind
  refine ⟨kN, kD, by rw [hN]; grind, by rw [hD]; grind, hk, hlc.symm, ?_, ?_⟩
  · rw [hlc2, ← ea]
    refine mul_cancel f.den_ne ?_
    rw [← hs2, ha]; grind
  · rw [hlc2, ← ea, ha]; grind
theorem PZ.smul {s t : Nat} {p q : Pol} {j : Nat} (h : PZ s p) (k : PZ t q) : PZ (s + t) (cst (p.c j) * q) := by
  obtain ⟨E, h1, h2, h3⟩ := h
  obtain ⟨F, k1, k2, k3⟩ := k
  have e1 : 2 ^ s * 2 ^ t = 2 ^ (s + t) := (Nat.pow_add 2 s t).symm
  refine ⟨E * F, Nat.mul_pos h1 k1, by rw [← e1]; exact Nat.mul_le_mul h2 k2, fun i => ?_⟩
  rw [cst_mul_c, ← e1]
  exact (h3 j).mul (k3 i)
def vF (K : PySem.W.Frag) (f : RF) : VP := vIn (He.ga K "RatFun") [("num", vP K f.num), ("den", vP K f.den)]
section
variable {P : Program} {w : World} {K : PySem.W.Frag} {mg : Str → Option Value} {base : Heap}
theorem F_init_fn (V : Ev P K mg) {fd : FuncData} (F : FunD K "__init__" "RatFun.__init__" (defArgs st_F_init) (defBody st_F_init) (defScope st_F_init) [] [] (He.fAd K ("RatFun", some "__init__")) fd) (Nu De : Pol) (hF : FOk Nu De) :
    FnOk P w K mg base CX0 50 (He.fAd K ("RatFun", some "__init__")) fd p_F_init (spI (He.ga K "RatFun") [vP K Nu, vP K De] (vF K (frac Nu De))) := by
  have nd := sc_F_init.nd
  obtain ⟨s0, n, s1, zN, zD, lN, lD, hn, hs, z1, z2, hz⟩ := hF.ex
  have hD := hF.ne
  have lD0 := Pol.len_pos hD
  have hlcD := Pol.lc_ne hD
  have rbD : PRB De := zD.rb (by omega)
  have rbN : PRB Nu := zN.rb (by omega)
  refine fn_I F sc_F_init rfl fun cdv A outer s H H0 E Q y dx hr q => ?_
  have fin : ∀ {pn pd : Pol} {G : Ctx} {D : Ends} {Hx : Hp}, (frac Nu De).num = pn → (frac Nu De).den = pd → Same H0 Hx → D.nx = Go (cx0 P w K mg base N_F_init "RatFun.__init__" (defScope st_F_init) (He.fAd K ("RatFun", some "__init__")) cdv A outer s H E) [] { nx := fun _ H' => Q .non H', rt := Q } →
      SOk (cx0 P w K mg base N_F_init "RatFun.__init__" (defScope st_F_init) (He.fAd K ("RatFun", some "__init__")) cdv A outer s H E) [] Hx G [.i y dx (He.ga K "RatFun") [("num", vP K pn), ("den", vP K pd)]] D := by
    intro pn pd G D Hx e1 e2 sx hD'
    subst e1 e2
    refine s_end (D := { nx := fun _ H' => Q .non H', rt := Q }) (s_nil fun t Hf H1 s1 o m => ?_) hD'
    refine q H1 ((sx.trans s1).trans m.same) ?_
    obtain ⟨gs, hx, its⟩ := m.atI (k := 0) rfl
    exact ⟨y, dx, gs, rfl, hx, its.mono m.same⟩
  refine s_ifR (k := false) (t_val (e_eq (e_mth0 (ks := ["row"]) (P_is_zero V De) rfl (by decide) hr (by omega) (e_nm 2)) (by rw [decide_eq_false hD]))) (fun z => absurd z Bool.false_ne_true) fun _ => ?_
  refine s_if (k := decide (Nu = 0)) (t_val (e_mth0 (ks := ["row"]) (P_is_zero V Nu) rfl (by decide) hr (by omega) (e_nm 1))) (fun h => ?_) fun h => ?_
  · have h0 := of_decide_eq_true h
    have hnum : (frac Nu De).num = 0 := (frac_num_zero hD).mpr h0
    refine s_fld 0 rfl (e_nm 0) (e_nm (P := vP K Nu) 1) V.W.cl_F V.W.na_F_num (show (0 : Nat) < 1000 by decide) ?_
    refine s_fld 0 rfl (e_nm 0) (e_call (constant_c V 1) hr (by omega) rfl (a_cons (e_callN (one_c' V) hr (by omega) rfl) a_nil)) V.W.cl_F V.W.na_F_den (show (1 : Nat) < 1000 by decide) ?_
    exact fin (by rw [hnum, h0]) (by rw [frac_zero_den hnum]; rfl) (Same.refl _) rfl
  · have h0 := of_decide_eq_false h
    refine s_if (k := decide ((De.len : Int) - 1 = 0)) (t_cmp (e_mth0 (ks := ["row"]) (P_degree V De) rfl (by decide) hr (by omega) (e_nm 2)) (e_int (i := 0)) o_eq) (fun h => ?_) fun h => ?_
    · have hl : De.len = 1 := by have := of_decide_eq_true h; omega
      obtain ⟨f1, f2⟩ := frac_const (N := Nu) hD hl
      refine s_fld 0 rfl (e_nm 0) (e_mth (ks := ["row"]) (P_scaled V Nu De.lc⁻¹ (by omega) rbN ((rbD _).inv hlcD)) rfl (by decide) hr (by omega) (e_nm 1) (a_cons (e_mth0 (ks := ["n", "d"]) (R_inverse V De.lc hlcD) rfl (by decide) hr (by omega) (e_mth0 (ks := ["row"]) (P_last V De hD) rfl (by decide) hr (by omega) (e_nm 2))) a_nil)) V.W.cl_F V.W.na_F_num (show (0 : Nat) < 1000 by decide) ?_
      refine s_fld 0 rfl (e_nm 0) (e_call (constant_c V 1) hr (by omega) rfl (a_cons (e_callN (one_c' V) hr (by omega) rfl) a_nil)) V.W.cl_F V.W.na_F_den (show (1 : Nat) < 1000 by decide) ?_
      refine s_end (D := { nx := Go _ [] { nx := fun _ H' => Q .non H', rt := Q }, rt := Q }) ?_ rfl
      exact fin f2 (by rw [f1]; rfl) (Same.refl _) rfl
    · refine s_asg 3 (e_call (common_divisor_c V Nu De h0 hD zN zD lN lD hn hs (by omega)) hr (by omega) rfl (a_cons (e_nm 1) (a_cons (e_nm 2) a_nil))) ?_ nd
      refine s_open 3 rfl fun d hd => ?_
      obtain ⟨kN, kD, eN, eD, hk0, hkl, ekN, ekD⟩ := frac_quot hD hd
      have hd0 := monic_ne hd.mon
      have hkc : kD.lc ≠ 0 := Pol.lc_ne hk0
      have zkN : PZ (s0 + s1) kN := by rw [ekN, hkl]; exact zD.smul z1
      have zkD : PZ (s0 + s1) kD := by rw [ekD, hkl]; exact zD.smul z2
      have ldl := dvd_len hd.r hD
      have lkD : kD.len ≤ n := by
        have := mul_len hk0 hd0
        rw [← eD] at this
        have := Pol.len_pos hd0
        omega
      have lkN : kN.len ≤ n := by
        have hkN : kN ≠ 0 := fun z => h0 (by rw [eN, z]; grind)
        have := mul_len hkN hd0
        rw [← eN] at this
        have := Pol.len_pos hd0
        omega
      have w1 : DivW kD d := zkD.divW hd.z (by omega) (by omega)
      have w2 : DivW kN d := zkN.divW hd.z (by omega) (by omega)
      have rk : RB kD.lc⁻¹ := (zkD.rb (by omega) _).inv hkc
      have ei := cst_inv hkc
      refine s_asg 4 (P := vP K kD) (e_bin (e_is (e_nm (P := vP K De) 2) fun v H p => (show (vP K (kD * d)).p v H by rw [← eD]; exact p)) (e_nm (P := vP K d) 3) (o_own (op := .FloorDiv) (P_floordiv V kD d hd0 w1 (by rw [← eD]; omega) (by omega) (by omega)) V.W.m.sP hr (by omega))) ?_ nd
      refine s_asg 5 (P := vR K kD.lc⁻¹) (e_mth0 (ks := ["n", "d"]) (R_inverse V kD.lc hkc) rfl (by decide) hr (by omega) (e_mth0 (ks := ["row"]) (P_last V kD hk0) rfl (by decide) hr (by omega) (e_nm 4))) ?_ nd
      refine s_fld 0 rfl (e_nm 0) (e_mth (ks := ["row"]) (P_scaled V kN kD.lc⁻¹ (by omega) (zkN.rb (by omega)) rk) rfl (by decide) hr (by omega) (e_bin (e_is (e_nm (P := vP K Nu) 1) fun v H p => (show (vP K (kN * d)).p v H by rw [← eN]; exact p)) (e_nm (P := vP K d) 3) (o_own (op := .FloorDiv) (P_floordiv V kN d hd0 w2 (by rw [← eN]; omega) (by omega) (by omega)) V.W.m.sP hr (by omega))) (a_cons (e_nm 5) a_nil)) V.W.cl_F V.W.na_F_num (show (0 : Nat) < 1000 by decide) ?_
      refine s_fld 0 rfl (e_nm 0) (e_mth (ks := ["row"]) (P_scaled V kD kD.lc⁻¹ (by omega) (zkD.rb (by omega)) rk) rfl (by decide) hr (by omega) (e_nm 4) (a_cons (e_nm 5) a_nil)) V.W.cl_F V.W.na_F_den (show (1 : Nat) < 1000 by decide) ?_
      refine s_end (D := { nx := Go _ [] { nx := fun _ H' => Q .non H', rt := Q }, rt := Q }) ?_ rfl
      refine fin ?_ ?_ (Same.refl _) rfl
      · generalize kD.lc = c at *
        rw [ekN]; grind
      · generalize kD.lc = c at *
        rw [ekD]; grind
theorem F_mk (V : Ev P K mg) (Nu De : Pol) (hF : FOk Nu De) : MakT P w K mg base 50 "RatFun" (He.ga K "RatFun") [vP K Nu, vP K De] [] (vF K (frac Nu De)) := by
  obtain ⟨fd, F⟩ := V.W.fd_F_init
  exact mk_mak V.W.mk_F (F_init_fn V F Nu De hF) V.W.gc_RatFun (b3 F)
end
end K31
set_option Elab.async false
set_option linter.all false
set_option maxRecDepth 100000
set_option maxHeartbeats 2000000
/-! W13: RatFun's methods, by costs. -/
namespace K31
open PySem PySem.Spec L2
theorem costBits_sum : ∀ a, a < 51 → ∀ b, b < 51 → a + b ≤ 50 → costBits a + costBits b ≤ 20404 := by decide +kernel
theorem costBits_le : ∀ c, c ≤ 52 → costBits c ≤ 24000 := by decide +kernel
theorem costBits_50 : ∀ c, c ≤ 50 → costBits c ≤ 20404 := by decide +kernel
theorem costBits_25 : ∀ c, c ≤ 25 → costBits c ≤ 10404 := by decide +kernel
def S0 : Nat := 21000
theorem S0_eq : S0 = 21000 := rfl
/-- the size of a function of a cost -/
structure Sz (b n : Nat) (f : RF) : Prop where
  ex : ∃ E, 0 < E ∧ E ≤ 2 ^ b ∧ (∀ i, Fr E (2 ^ b) (f.num.c i)) ∧ ∀ i, Fr E (2 ^ b) (f.den.c i)
  ln : f.num.len ≤ n
  ld : f.den.len ≤ n
theorem Cost.sz {c : Nat} {f : RF} (h : Cost c f) : Sz (costBits c) (c + 1) f := by
  obtain ⟨E, h1, h2, ⟨l1, z, k1, k2⟩, ⟨l2, y, j1, j2⟩⟩ := canon_size h
  exact ⟨⟨E, h1, h2, fun i => ⟨z i, k1 i, k2 i⟩, fun i => ⟨y i, j1 i, j2 i⟩⟩, l1, l2⟩
theorem Sz.pn {b n : Nat} {f : RF} (h : Sz b n f) : PZ b f.num := by
  obtain ⟨E, h1, h2, h3, h4⟩ := h.ex
  exact ⟨E, h1, h2, h3⟩
theorem Sz.pd {b n : Nat} {f : RF} (h : Sz b n f) : PZ b f.den := by
  obtain ⟨E, h1, h2, h3, h4⟩ := h.ex
  exact ⟨E, h1, h2, h4⟩
theorem fok_of {N D : Pol} {c : Nat} (hD : D ≠ 0) (zN : PZ S0 N) (zD : PZ S0 D) (lN : N.len ≤ 52) (lD : D.len ≤ 52) (hc : Cost c (frac N D)) (hc2 : c ≤ 52) : FOk N D := by
  have z := hc.sz
  have k := costBits_le c hc2
  exact ⟨hD, S0, 52, 24000, zN, zD, lN, lD, by decide, by decide, z.pn.mono k, z.pd.mono k, by decide⟩
theorem mul_fr {p q : Pol} {E F a b n : Nat} (h : ∀ i, Fr E (2 ^ a) (p.c i)) (k : ∀ i, Fr F (2 ^ b) (q.c i)) (hl : p.len ≤ 64) (i : Nat) : Fr (E * F) (2 ^ (a + b + 6)) ((p * q).c i) := by
  rw [← S_all p q p.len i (Nat.le_refl _)]
  refine (S_fr h k i p.len).mono ?_
  have e1 : 2 ^ a * 2 ^ b = 2 ^ (a + b) := (Nat.pow_add 2 a b).symm
  have e2 : 2 ^ (a + b + 6) = 64 * 2 ^ (a + b) := by rw [Nat.pow_add]; omega
  rw [e1, e2]
  exact Nat.mul_le_mul_right _ hl
theorem two_pow_add {a b t : Nat} (ha : a + 1 ≤ t) (hb : b ≤ a) : 2 ^ a + 2 ^ b ≤ 2 ^ t := by
  have h1 : 2 ^ b ≤ 2 ^ a := Nat.pow_le_pow_right (by decide) hb
  have h2 : 2 ^ (a + 1) ≤ 2 ^ t := Nat.pow_le_pow_right (by decide) ha
  have h3 : 2 ^ (a + 1) = 2 * 2 ^ a := by rw [Nat.pow_succ]; omega
  omega
/-- sizes of a pair of functions: what the products and sums of their parts need -/
structure Two (f g : RF) : Prop where
  nd : MulOk f.num g.den
  dn : MulOk g.num f.den
  dd : MulOk f.den g.den
  nn : MulOk f.num g.num
  sn : PRB (f.num * g.den)
  sd : PRB (g.num * f.den)
  pf : PRB f.num
  pg : PRB g.num
  gd : MulOk f.den g.num
theorem frE {E F s : Nat} (h1 : 0 < E) (h2 : E ≤ 2 ^ s) (k1 : 0 < F) {t : Nat} (k2 : F ≤ 2 ^ t) : 0 < E * F ∧ E * F ≤ 2 ^ (s + t) := ⟨Nat.mul_pos h1 k1, by rw [Nat.pow_add]; exact Nat.mul_le_mul h2 k2⟩
theorem Cost.two {a b : Nat} {f g : RF} (h : Cost a f) (k : Cost b g) (hs : a + b ≤ 50) : Two f g := by
  have sz1 := h.sz
  have sz2 := k.sz
  have hb := costBits_sum a (by omega) b (by omega) hs
  have hS0 := S0_eq
  have l1 := sz1.ln
  have l2 := sz1.ld
  have l3 := sz2.ln
  have l4 := sz2.ld
  have hSZ : 24000 < SZ := by decide
  have m1 := sz1.pn.mulOk sz2.pd (by omega) (by omega)
  have m2 := sz2.pn.mulOk sz1.pd (by omega) (by omega)
  refine ⟨m1, m2, sz1.pd.mulOk sz2.pd (by omega) (by omega), sz1.pn.mulOk sz2.pn (by omega) (by omega), fun i => ?_, fun i => ?_, m1.l, m2.l, sz1.pd.mulOk sz2.pn (by omega) (by omega)⟩
  · rw [← S_all _ _ _ i (Nat.le_refl _)]
    have := m1.s f.num.len 0 i (Nat.le_refl _)
    rw [S2_zero] at this
    exact this
  · rw [← S_all _ _ _ i (Nat.le_refl _)]
    have := m2.s g.num.len 0 i (Nat.le_refl _)
    rw [S2_zero] at this
    exact this
theorem fok_add {a b : Nat} {f g : RF} (h : Cost a f) (k : Cost b g) (hs : a + b ≤ 50) : FOk (f.num * g.den + g.num * f.den) (f.den * g.den) ∧ frac (f.num * g.den + g.num * f.den) (f.den * g.den) = f + g := by
  have e : frac (f.num * g.den + g.num * f.den) (f.den * g.den) = f + g := by
    rw [← add_frac f.den_ne g.den_ne, frac_self, frac_self]
  have sz1 := h.sz
  have sz2 := k.sz
  have hb := costBits_sum a (by omega) b (by omega) hs
  have hS0 := S0_eq
  have l1 := sz1.ln
  have l2 := sz1.ld
  have l3 := sz2.ln
  have l4 := sz2.ld
  obtain ⟨E, h1, h2, h3, h4⟩ := sz1.ex
  obtain ⟨F, k1, k2, k3, k4⟩ := sz2.ex
  obtain ⟨p0, p1⟩ := frE h1 h2 k1 k2
  have t1 := mul_len_le f.num g.den
  have t2 := mul_len_le g.num f.den
  have t3 := add_len_le (f.num * g.den) (g.num * f.den)
  have t4 := mul_len_le f.den g.den
  have pw : 2 ^ (costBits a + costBits b) ≤ 2 ^ S0 := Nat.pow_le_pow_right (by decide) (by omega)
  refine ⟨fok_of (mul_ne f.den_ne g.den_ne) ⟨E * F, p0, Nat.le_trans p1 pw, fun i => ?_⟩ ⟨E * F, p0, Nat.le_trans p1 pw, fun i => ?_⟩ (by omega) (by omega) (by rw [e]; exact h.add k) (by omega), e⟩
  · rw [add_c]
    have q1 := mul_fr (n := 0) h3 k4 (by omega) i
    have q2 := mul_fr (n := 0) k3 h4 (by omega) i
    rw [Nat.mul_comm F E] at q2
    exact (q1.add q2).mono (two_pow_add (by omega) (by omega))
  · exact (mul_fr (n := 0) h4 k4 (by omega) i).mono (Nat.pow_le_pow_right (by decide) (by omega))
theorem fok_sub {a b : Nat} {f g : RF} (h : Cost a f) (k : Cost b g) (hs : a + b ≤ 50) : FOk (f.num * g.den - g.num * f.den) (f.den * g.den) ∧ frac (f.num * g.den - g.num * f.den) (f.den * g.den) = f - g := by
  have e : frac (f.num * g.den - g.num * f.den) (f.den * g.den) = f - g := by
    rw [← sub_frac f.den_ne g.den_ne, frac_self, frac_self]
  have sz1 := h.sz
  have sz2 := k.sz
  have hb := costBits_sum a (by omega) b (by omega) hs
  have hS0 := S0_eq
  have l1 := sz1.ln
  have l2 := sz1.ld
  have l3 := sz2.ln
  have l4 := sz2.ld
  obtain ⟨E, h1, h2, h3, h4⟩ := sz1.ex
  obtain ⟨F, k1, k2, k3, k4⟩ := sz2.ex
  obtain ⟨p0, p1⟩ := frE h1 h2 k1 k2
  have t1 := mul_len_le f.num g.den
  have t2 := mul_len_le g.num f.den
  have t3 := sub_len_le (f.num * g.den) (g.num * f.den)
  have t4 := mul_len_le f.den g.den
  have pw : 2 ^ (costBits a + costBits b) ≤ 2 ^ S0 := Nat.pow_le_pow_right (by decide) (by omega)
  refine ⟨fok_of (mul_ne f.den_ne g.den_ne) ⟨E * F, p0, Nat.le_trans p1 pw, fun i => ?_⟩ ⟨E * F, p0, Nat.le_trans p1 pw, fun i => ?_⟩ (by omega) (by omega) (by rw [e]; exact h.sub k) (by omega), e⟩
  · rw [sub_c]
    have q1 := mul_fr (n := 0) h3 k4 (by omega) i
    have q2 := mul_fr (n := 0) k3 h4 (by omega) i
    rw [Nat.mul_comm F E] at q2
    exact (q1.sub q2).mono (two_pow_add (by omega) (by omega))
  · exact (mul_fr (n := 0) h4 k4 (by omega) i).mono (Nat.pow_le_pow_right (by decide) (by omega))
theorem fok_mul {a b : Nat} {f g : RF} (h : Cost a f) (k : Cost b g) (hs : a + b ≤ 50) : FOk (f.num * g.num) (f.den * g.den) ∧ frac (f.num * g.num) (f.den * g.den) = f * g := by
  have e : frac (f.num * g.num) (f.den * g.den) = f * g := by
    rw [← mul_frac f.den_ne g.den_ne, frac_self, frac_self]
  have sz1 := h.sz
  have sz2 := k.sz
  have hb := costBits_sum a (by omega) b (by omega) hs
  have hS0 := S0_eq
  have l1 := sz1.ln
  have l2 := sz1.ld
  have l3 := sz2.ln
  have l4 := sz2.ld
  obtain ⟨E, h1, h2, h3, h4⟩ := sz1.ex
  obtain ⟨F, k1, k2, k3, k4⟩ := sz2.ex
  obtain ⟨p0, p1⟩ := frE h1 h2 k1 k2
  have t1 := mul_len_le f.num g.num
  have t4 := mul_len_le f.den g.den
  have pw : 2 ^ (costBits a + costBits b) ≤ 2 ^ S0 := Nat.pow_le_pow_right (by decide) (by omega)
  exact ⟨fok_of (mul_ne f.den_ne g.den_ne) ⟨E * F, p0, Nat.le_trans p1 pw, fun i => (mul_fr (n := 0) h3 k3 (by omega) i).mono (Nat.pow_le_pow_right (by decide) (by omega))⟩ ⟨E * F, p0, Nat.le_trans p1 pw, fun i => (mul_fr (n := 0) h4 k4 (by omega) i).mono (Nat.pow_le_pow_right (by decide) (by omega))⟩ (by omega) (by omega) (by rw [e]; exact h.mul k) (by omega), e⟩
theorem fok_div {a b : Nat} {f g : RF} (h : Cost a f) (k : Cost b g) (hs : a + b ≤ 50) (hg : g ≠ 0) : FOk (f.num * g.den) (f.den * g.num) ∧ frac (f.num * g.den) (f.den * g.num) = f / g := by
  have hgn : g.num ≠ 0 := fun z => hg (RF.num_zero.mp z)
  have e : frac (f.num * g.den) (f.den * g.num) = f / g := by
    have e1 : g⁻¹ = frac g.den g.num := by
      conv => lhs; rw [← frac_self g]
      exact inv_frac hgn g.den_ne
    show _ = f * g⁻¹
    rw [e1]
    conv => rhs; rw [← frac_self f]
    rw [mul_frac f.den_ne hgn]
  have sz1 := h.sz
  have sz2 := k.sz
  have hb := costBits_sum a (by omega) b (by omega) hs
  have hS0 := S0_eq
  have l1 := sz1.ln
  have l2 := sz1.ld
  have l3 := sz2.ln
  have l4 := sz2.ld
  obtain ⟨E, h1, h2, h3, h4⟩ := sz1.ex
  obtain ⟨F, k1, k2, k3, k4⟩ := sz2.ex
  obtain ⟨p0, p1⟩ := frE h1 h2 k1 k2
  have t1 := mul_len_le f.num g.den
  have t4 := mul_len_le f.den g.num
  have pw : 2 ^ (costBits a + costBits b) ≤ 2 ^ S0 := Nat.pow_le_pow_right (by decide) (by omega)
  exact ⟨fok_of (mul_ne f.den_ne hgn) ⟨E * F, p0, Nat.le_trans p1 pw, fun i => (mul_fr (n := 0) h3 k4 (by omega) i).mono (Nat.pow_le_pow_right (by decide) (by omega))⟩ ⟨E * F, p0, Nat.le_trans p1 pw, fun i => (mul_fr (n := 0) h4 k3 (by omega) i).mono (Nat.pow_le_pow_right (by decide) (by omega))⟩ (by omega) (by omega) (by rw [e]; exact h.div k) (by omega), e⟩
theorem fok_inv {a : Nat} {f : RF} (h : Cost a f) (hs : a ≤ 50) (hf : f ≠ 0) : FOk f.den f.num ∧ frac f.den f.num = f⁻¹ := by
  have hfn : f.num ≠ 0 := fun z => hf (RF.num_zero.mp z)
  have e : frac f.den f.num = f⁻¹ := by
    conv => rhs; rw [← frac_self f]
    exact (inv_frac hfn f.den_ne).symm
  have sz1 := h.sz
  have hb := costBits_50 a hs
  have hS0 := S0_eq
  have l1 := sz1.ln
  have l2 := sz1.ld
  exact ⟨fok_of hfn (sz1.pd.mono (by omega)) (sz1.pn.mono (by omega)) (by omega) (by omega) (by rw [e]; exact h.inv) (by omega), e⟩
theorem fok_neg {a : Nat} {f : RF} (h : Cost a f) (hs : a ≤ 50) : FOk (-f.num) f.den ∧ frac (-f.num) f.den = -f := by
  have e : frac (-f.num) f.den = -f := by
    conv => rhs; rw [← frac_self f]
    exact (neg_frac f.den_ne).symm
  have sz1 := h.sz
  have hb := costBits_50 a hs
  have hS0 := S0_eq
  have l1 := sz1.ln
  have l2 := sz1.ld
  obtain ⟨E, h1, h2, h3, h4⟩ := sz1.ex
  have pw : 2 ^ costBits a ≤ 2 ^ S0 := Nat.pow_le_pow_right (by decide) (by omega)
  exact ⟨fok_of f.den_ne ⟨E, h1, Nat.le_trans h2 pw, fun i => by rw [neg_c]; exact ((h3 i).mono pw).neg⟩ (sz1.pd.mono (by omega)) (by rw [neg_len]; omega) (by omega) (by rw [e]; exact h.neg) (by omega), e⟩
/-- a sum over one divisor -/
theorem fok_same {a b : Nat} {f g : RF} (h : Cost a f) (k : Cost b g) (hs : a + b ≤ 50) (hd : f.den = g.den) : (FOk (f.num + g.num) f.den ∧ frac (f.num + g.num) f.den = f + g) ∧ FOk (f.num - g.num) f.den ∧ frac (f.num - g.num) f.den = f - g := by
  have e : frac (f.num + g.num) f.den = f + g := by
    conv => rhs; rw [← frac_self f, ← frac_self g]
    rw [← hd, add_frac f.den_ne f.den_ne]
    exact frac_eq f.den_ne (mul_ne f.den_ne f.den_ne) (by grind)
  have e2 : frac (f.num - g.num) f.den = f - g := by
    conv => rhs; rw [← frac_self f, ← frac_self g]
    rw [← hd, sub_frac f.den_ne f.den_ne]
    exact frac_eq f.den_ne (mul_ne f.den_ne f.den_ne) (by grind)
  have sz1 := h.sz
  have sz2 := k.sz
  have hb := costBits_sum a (by omega) b (by omega) hs
  have hS0 := S0_eq
  have l1 := sz1.ln
  have l2 := sz1.ld
  have l3 := sz2.ln
  obtain ⟨E, h1, h2, h3, h4⟩ := sz1.ex
  obtain ⟨F, k1, k2, k3, k4⟩ := sz2.ex
  obtain ⟨p0, p1⟩ := frE h1 h2 k1 k2
  have t3 := add_len_le f.num g.num
  have t4 := sub_len_le f.num g.num
  have pw : 2 ^ (costBits a + costBits b) ≤ 2 ^ S0 := Nat.pow_le_pow_right (by decide) (by omega)
  -- over the product of the divisors
  have one1 : Fr F (2 ^ costBits b) 1 := ⟨(F : Int), by rw [Rat.intCast_natCast]; grind, by rw [Int.natAbs_natCast]; exact k2⟩
  have one2 : Fr E (2 ^ costBits a) 1 := ⟨(E : Int), by rw [Rat.intCast_natCast]; grind, by rw [Int.natAbs_natCast]; exact h2⟩
  have q1 : ∀ i, Fr (E * F) (2 ^ (costBits a + costBits b)) (f.num.c i) := fun i => by
    have := (h3 i).mul one1
    rw [← Nat.pow_add, show f.num.c i * 1 = f.num.c i by grind] at this
    exact this
  have q2 : ∀ i, Fr (E * F) (2 ^ (costBits a + costBits b)) (g.num.c i) := fun i => by
    have := one2.mul (k3 i)
    rw [← Nat.pow_add, show 1 * g.num.c i = g.num.c i by grind] at this
    exact this
  refine ⟨⟨fok_of f.den_ne ⟨E * F, p0, Nat.le_trans p1 pw, fun i => ?_⟩ (sz1.pd.mono (by omega)) (by omega) (by omega) (by rw [e]; exact h.add k) (by omega), e⟩, fok_of f.den_ne ⟨E * F, p0, Nat.le_trans p1 pw, fun i => ?_⟩ (sz1.pd.mono (by omega)) (by omega) (by omega) (by rw [e2]; exact h.sub k) (by omega), e2⟩
  · rw [add_c]
    exact ((q1 i).add (q2 i)).mono (two_pow_add (by omega) (Nat.le_refl _))
  · rw [sub_c]
    exact ((q1 i).sub (q2 i)).mono (two_pow_add (by omega) (Nat.le_refl _))
/-- the derivative -/
structure DerOk (f : RF) : Prop where
  pn : PRB f.num
  pd : PRB f.den
  m1 : MulOk f.num.D f.den
  m2 : MulOk f.num f.den.D
  s1 : PRB (f.num.D * f.den)
  s2 : PRB (f.num * f.den.D)
  dd : MulOk f.den f.den
  ok : FOk (f.num.D * f.den - f.num * f.den.D) (f.den * f.den)
  e : frac (f.num.D * f.den - f.num * f.den.D) (f.den * f.den) = f.d
theorem D_fr {p : Pol} {E a : Nat} (h : ∀ i, Fr E (2 ^ a) (p.c i)) (hl : p.len ≤ 64) (i : Nat) : Fr E (2 ^ (a + 6)) (p.D.c i) := by
  rw [D_c]
  rcases Nat.lt_or_ge (i + 1) p.len with hi | hi
  · obtain ⟨z, h1, h2⟩ := h (i + 1)
    refine ⟨((i + 1 : Nat) : Int) * z, ?_, ?_⟩
    · rw [Rat.intCast_mul, ← h1, Rat.intCast_natCast]; grind
    · rw [Int.natAbs_mul, Int.natAbs_natCast, Nat.add_comm a 6, Nat.pow_add]
      exact Nat.mul_le_mul (by omega) h2
  · rw [Pol.c_ge hi]
    have : ((i + 1 : Nat) : Rat) * 0 = 0 := by grind
    rw [this]; exact Fr.zero
theorem Cost.der {c : Nat} {f : RF} (h : Cost c f) (hc : c ≤ 25) : DerOk f := by
  have sz := h.sz
  have hb := costBits_25 c hc
  have hS0 := S0_eq
  have l1 := sz.ln
  have l2 := sz.ld
  have hSZ : 24000 < SZ := by decide
  obtain ⟨E, h1, h2, h3, h4⟩ := sz.ex
  obtain ⟨p0, p1⟩ := frE h1 h2 h1 h2
  have d1 := D_fr h3 (by omega)
  have d2 := D_fr h4 (by omega)
  have pw6 : 2 ^ costBits c ≤ 2 ^ (costBits c + 6) := Nat.pow_le_pow_right (by decide) (by omega)
  have zn : PZ (costBits c + 6) f.num.D := ⟨E, h1, Nat.le_trans h2 pw6, d1⟩
  have zd : PZ (costBits c + 6) f.den.D := ⟨E, h1, Nat.le_trans h2 pw6, d2⟩
  have ln := D_len_le f.num
  have ld := D_len_le f.den
  have m1 := zn.mulOk sz.pd (by omega) (by omega)
  have m2 := sz.pn.mulOk zd (by omega) (by omega)
  have e : frac (f.num.D * f.den - f.num * f.den.D) (f.den * f.den) = f.d := by
    rw [← d_frac f.den_ne, frac_self]
  have t1 := mul_len_le f.num.D f.den
  have t2 := mul_len_le f.num f.den.D
  have t3 := sub_len_le (f.num.D * f.den) (f.num * f.den.D)
  have t4 := mul_len_le f.den f.den
  have pw : 2 ^ (costBits c + costBits c) ≤ 2 ^ S0 := Nat.pow_le_pow_right (by decide) (by omega)
  refine ⟨sz.pn.rb (by omega), sz.pd.rb (by omega), m1, m2, fun i => ?_, fun i => ?_, sz.pd.mulOk sz.pd (by omega) (by omega), fok_of (c := 2 * c + 2) (mul_ne f.den_ne f.den_ne) ⟨E * E, p0, Nat.le_trans p1 pw, fun i => ?_⟩ ⟨E * E, p0, Nat.le_trans p1 pw, fun i => ?_⟩ (by omega) (by omega) (by rw [e]; exact h.d (by omega)) (by omega), e⟩
  · rw [← S_all _ _ _ i (Nat.le_refl _)]
    have := m1.s f.num.D.len 0 i (Nat.le_refl _)
    rw [S2_zero] at this
    exact this
  · rw [← S_all _ _ _ i (Nat.le_refl _)]
    have := m2.s f.num.len 0 i (Nat.le_refl _)
    rw [S2_zero] at this
    exact this
  · rw [sub_c]
    have q1 := mul_fr (n := 0) d1 h4 (by omega) i
    have q2 := mul_fr (n := 0) h3 d2 (by omega) i
    exact (q1.sub q2).mono (two_pow_add (by omega) (by omega))
  · exact (mul_fr (n := 0) h4 h4 (by omega) i).mono (Nat.pow_le_pow_right (by decide) (by omega))
end K31
set_option Elab.async false
set_option linter.all false
set_option maxRecDepth 100000
set_option maxHeartbeats 2000000
/-! W14: RatFun's methods. -/
namespace K31
open PySem PySem.Spec L2
theorem frac_one (p : Pol) : (frac p 1).num = p ∧ (frac p 1).den = 1 := by
  obtain ⟨h1, h2⟩ := frac_const (N := p) one_ne one_len
  refine ⟨?_, h1⟩
  rw [h2, one_lc]
  have : cst (1 : Rat)⁻¹ = 1 := by
    rw [one_eq]; congr 1; grind
  rw [this]; grind
theorem fok_one {p : Pol} {c : Nat} (h : Cost c (frac p 1)) (hc : c ≤ 50) : FOk p 1 := by
  have sz := h.sz
  obtain ⟨e1, e2⟩ := frac_one p
  have z1 := sz.pn
  have z2 := sz.pd
  have l1 := sz.ln
  have l2 := sz.ld
  rw [e1] at z1 l1
  have hb := costBits_50 c hc
  have hS0 := S0_eq
  exact fok_of one_ne (z1.mono (by omega)) (PZ.one) (by omega) (by rw [one_len]; omega) h (by omega)
section
variable {P : Program} {w : World} {K : PySem.W.Frag} {mg : Str → Option Value} {base : Heap}
theorem F_is_zero (V : Ev P K mg) (f : RF) : MetT P w K mg base 3 (He.ga K "RatFun") "is_zero" [vF K f] [] (vB (decide (f = 0))) := by
  obtain ⟨fd, F⟩ := V.W.fd_F_is_zero
  refine mk_met V.W.cl_F V.W.me_F_is_zero (fn_V F sc_F_is_zero rfl fun cdv A outer s H E Q hr q => ?_) (b1 F)
  refine s_retV (e_eq (e_mth0 (ks := ["row"]) (P_is_zero V f.num) rfl (by decide) hr (by omega) (e_fld (e_nm 0) V.W.cl_F V.W.na_F_num rfl)) ?_) rfl q
  congr 1
  exact decide_eq_decide.mpr RF.num_zero
theorem F_eq (V : Ev P K mg) (f g : RF) : MetT P w K mg base 46 (He.ga K "RatFun") "__eq__" [vF K f, vF K g] [] (vB (decide (f = g))) := by
  obtain ⟨fd, F⟩ := V.W.fd_F_eq
  refine mk_met V.W.cl_F V.W.me_F_eq (fn_V F sc_F_eq rfl fun cdv A outer s H E Q hr q => ?_) (b2 F)
  refine s_retV (e_eq (e_and (j := true) (e_blt (c_isO V.W.cl_F V.W.m.iF V.W.m.hn V.W.m.htk) rfl V.W.fr_isinstance PyProof.Rows.boot_isinstance (a_cons (e_nm 1) (a_cons (e_cls rfl V.W.gc_RatFun) a_nil))) fun _ => e_and (j := decide (f.num = g.num)) (e_cmp (e_fld (e_nm 0) V.W.cl_F V.W.na_F_num rfl) (e_fld (e_nm 1) V.W.cl_F V.W.na_F_num rfl) (o_ownEq (P_eq V f.num g.num) hr (by omega))) fun _ => e_one (e_cmp (e_fld (e_nm 0) V.W.cl_F V.W.na_F_den rfl) (e_fld (e_nm 1) V.W.cl_F V.W.na_F_den rfl) (o_ownEq (P_eq V f.den g.den) hr (by omega)))) ?_) rfl q
  congr 1
  rw [Bool.true_and]
  by_cases h : f = g
  · subst h; simp
  · rw [decide_eq_false h]
    by_cases h1 : f.num = g.num
    · by_cases h2 : f.den = g.den
      · exact absurd (RF.eq_of h1 h2) h
      · rw [decide_eq_false h2, Bool.and_false]
    · rw [decide_eq_false h1, Bool.false_and]
theorem F_add (V : Ev P K mg) {f g : RF} {a b : Nat} (h : Cost a f) (k : Cost b g) (hs : a + b ≤ 50) : MetT P w K mg base 52 (He.ga K "RatFun") "__add__" [vF K f, vF K g] [] (vF K (f + g)) := by
  obtain ⟨fd, F⟩ := V.W.fd_F_add
  have t := h.two k hs
  have sz1 := h.sz
  have sz2 := k.sz
  have l1 := sz1.ln
  have l2 := sz1.ld
  have l3 := sz2.ln
  have l4 := sz2.ld
  have t1 := mul_len_le f.num g.den
  have t2 := mul_len_le g.num f.den
  refine mk_met V.W.cl_F V.W.me_F_add (fn_V F sc_F_add rfl fun cdv A outer s H E Q hr q => ?_) (b2 F)
  refine s_ifR (k := decide (f.den = g.den)) (t_cmp (e_fld (e_nm 0) V.W.cl_F V.W.na_F_den rfl) (e_fld (e_nm 1) V.W.cl_F V.W.na_F_den rfl) (o_ownEq (P_eq V f.den g.den) hr (by omega))) (fun e => ?_) fun _ => ?_
  · obtain ⟨o1, e1⟩ := (fok_same h k hs (of_decide_eq_true e)).1
    exact s_retV (e_eq (e_mk (F_mk V _ _ o1) hr (by omega) rfl (a_cons (e_bin (e_fld (e_nm 0) V.W.cl_F V.W.na_F_num rfl) (e_fld (e_nm 1) V.W.cl_F V.W.na_F_num rfl) (o_own (op := .Add) (P_add V f.num g.num t.pf t.pg (by omega) (by omega)) V.W.m.sP hr (by omega))) (a_cons (e_fld (e_nm 0) V.W.cl_F V.W.na_F_den rfl) a_nil))) (by rw [e1])) rfl q
  · obtain ⟨o1, e1⟩ := fok_add h k hs
    exact s_retV (e_eq (e_mk (F_mk V _ _ o1) hr (by omega) rfl (a_cons (e_bin (e_bin (e_fld (e_nm 0) V.W.cl_F V.W.na_F_num rfl) (e_fld (e_nm 1) V.W.cl_F V.W.na_F_den rfl) (o_own (op := .Mult) (P_mul V f.num g.den t.nd (by omega) (by omega)) V.W.m.sP hr (by omega))) (e_bin (e_fld (e_nm 1) V.W.cl_F V.W.na_F_num rfl) (e_fld (e_nm 0) V.W.cl_F V.W.na_F_den rfl) (o_own (op := .Mult) (P_mul V g.num f.den t.dn (by omega) (by omega)) V.W.m.sP hr (by omega))) (o_own (op := .Add) (P_add V _ _ t.sn t.sd (by omega) (by omega)) V.W.m.sP hr (by omega))) (a_cons (e_bin (e_fld (e_nm 0) V.W.cl_F V.W.na_F_den rfl) (e_fld (e_nm 1) V.W.cl_F V.W.na_F_den rfl) (o_own (op := .Mult) (P_mul V f.den g.den t.dd (by omega) (by omega)) V.W.m.sP hr (by omega))) a_nil))) (by rw [e1])) rfl q
theorem F_sub (V : Ev P K mg) {f g : RF} {a b : Nat} (h : Cost a f) (k : Cost b g) (hs : a + b ≤ 50) : MetT P w K mg base 52 (He.ga K "RatFun") "__sub__" [vF K f, vF K g] [] (vF K (f - g)) := by
  obtain ⟨fd, F⟩ := V.W.fd_F_sub
  have t := h.two k hs
  have sz1 := h.sz
  have sz2 := k.sz
  have l1 := sz1.ln
  have l2 := sz1.ld
  have l3 := sz2.ln
  have l4 := sz2.ld
  have t1 := mul_len_le f.num g.den
  have t2 := mul_len_le g.num f.den
  refine mk_met V.W.cl_F V.W.me_F_sub (fn_V F sc_F_sub rfl fun cdv A outer s H E Q hr q => ?_) (b2 F)
  refine s_ifR (k := decide (f.den = g.den)) (t_cmp (e_fld (e_nm 0) V.W.cl_F V.W.na_F_den rfl) (e_fld (e_nm 1) V.W.cl_F V.W.na_F_den rfl) (o_ownEq (P_eq V f.den g.den) hr (by omega))) (fun e => ?_) fun _ => ?_
  · obtain ⟨o1, e1⟩ := (fok_same h k hs (of_decide_eq_true e)).2
    exact s_retV (e_eq (e_mk (F_mk V _ _ o1) hr (by omega) rfl (a_cons (e_bin (e_fld (e_nm 0) V.W.cl_F V.W.na_F_num rfl) (e_fld (e_nm 1) V.W.cl_F V.W.na_F_num rfl) (o_own (op := .Sub) (P_sub V f.num g.num t.pf t.pg (by omega) (by omega)) V.W.m.sP hr (by omega))) (a_cons (e_fld (e_nm 0) V.W.cl_F V.W.na_F_den rfl) a_nil))) (by rw [e1])) rfl q
  · obtain ⟨o1, e1⟩ := fok_sub h k hs
    exact s_retV (e_eq (e_mk (F_mk V _ _ o1) hr (by omega) rfl (a_cons (e_bin (e_bin (e_fld (e_nm 0) V.W.cl_F V.W.na_F_num rfl) (e_fld (e_nm 1) V.W.cl_F V.W.na_F_den rfl) (o_own (op := .Mult) (P_mul V f.num g.den t.nd (by omega) (by omega)) V.W.m.sP hr (by omega))) (e_bin (e_fld (e_nm 1) V.W.cl_F V.W.na_F_num rfl) (e_fld (e_nm 0) V.W.cl_F V.W.na_F_den rfl) (o_own (op := .Mult) (P_mul V g.num f.den t.dn (by omega) (by omega)) V.W.m.sP hr (by omega))) (o_own (op := .Sub) (P_sub V _ _ t.sn t.sd (by omega) (by omega)) V.W.m.sP hr (by omega))) (a_cons (e_bin (e_fld (e_nm 0) V.W.cl_F V.W.na_F_den rfl) (e_fld (e_nm 1) V.W.cl_F V.W.na_F_den rfl) (o_own (op := .Mult) (P_mul V f.den g.den t.dd (by omega) (by omega)) V.W.m.sP hr (by omega))) a_nil))) (by rw [e1])) rfl q
theorem F_mul (V : Ev P K mg) {f g : RF} {a b : Nat} (h : Cost a f) (k : Cost b g) (hs : a + b ≤ 50) : MetT P w K mg base 52 (He.ga K "RatFun") "__mul__" [vF K f, vF K g] [] (vF K (f * g)) := by
  obtain ⟨fd, F⟩ := V.W.fd_F_mul
  have t := h.two k hs
  have sz1 := h.sz
  have sz2 := k.sz
  have l1 := sz1.ln
  have l2 := sz1.ld
  have l3 := sz2.ln
  have l4 := sz2.ld
  refine mk_met V.W.cl_F V.W.me_F_mul (fn_V F sc_F_mul rfl fun cdv A outer s H E Q hr q => ?_) (b2 F)
  obtain ⟨o1, e1⟩ := fok_mul h k hs
  exact s_retV (e_eq (e_mk (F_mk V _ _ o1) hr (by omega) rfl (a_cons (e_bin (e_fld (e_nm 0) V.W.cl_F V.W.na_F_num rfl) (e_fld (e_nm 1) V.W.cl_F V.W.na_F_num rfl) (o_own (op := .Mult) (P_mul V f.num g.num t.nn (by omega) (by omega)) V.W.m.sP hr (by omega))) (a_cons (e_bin (e_fld (e_nm 0) V.W.cl_F V.W.na_F_den rfl) (e_fld (e_nm 1) V.W.cl_F V.W.na_F_den rfl) (o_own (op := .Mult) (P_mul V f.den g.den t.dd (by omega) (by omega)) V.W.m.sP hr (by omega))) a_nil))) (by rw [e1])) rfl q
theorem F_floordiv (V : Ev P K mg) {f g : RF} {a b : Nat} (h : Cost a f) (k : Cost b g) (hs : a + b ≤ 50) (hg : g ≠ 0) : MetT P w K mg base 52 (He.ga K "RatFun") "__floordiv__" [vF K f, vF K g] [] (vF K (f / g)) := by
  obtain ⟨fd, F⟩ := V.W.fd_F_floordiv
  have t := h.two k hs
  have sz1 := h.sz
  have sz2 := k.sz
  have l1 := sz1.ln
  have l2 := sz1.ld
  have l3 := sz2.ln
  have l4 := sz2.ld
  have hgn : g.num ≠ 0 := fun z => hg (RF.num_zero.mp z)
  refine mk_met V.W.cl_F V.W.me_F_floordiv (fn_V F sc_F_floordiv rfl fun cdv A outer s H E Q hr q => ?_) (b2 F)
  obtain ⟨o1, e1⟩ := fok_div h k hs hg
  refine s_ifR (k := false) (t_val (e_eq (e_mth0 (ks := ["row"]) (P_is_zero V g.num) rfl (by decide) hr (by omega) (e_fld (e_nm 1) V.W.cl_F V.W.na_F_num rfl)) (by rw [decide_eq_false hgn]))) (fun z => absurd z Bool.false_ne_true) fun _ => ?_
  exact s_retV (e_eq (e_mk (F_mk V _ _ o1) hr (by omega) rfl (a_cons (e_bin (e_fld (e_nm 0) V.W.cl_F V.W.na_F_num rfl) (e_fld (e_nm 1) V.W.cl_F V.W.na_F_den rfl) (o_own (op := .Mult) (P_mul V f.num g.den t.nd (by omega) (by omega)) V.W.m.sP hr (by omega))) (a_cons (e_bin (e_fld (e_nm 0) V.W.cl_F V.W.na_F_den rfl) (e_fld (e_nm 1) V.W.cl_F V.W.na_F_num rfl) (o_own (op := .Mult) (P_mul V f.den g.num t.gd (by omega) (by omega)) V.W.m.sP hr (by omega))) a_nil))) (by rw [e1])) rfl q
theorem F_neg (V : Ev P K mg) {f : RF} {a : Nat} (h : Cost a f) (hs : a ≤ 50) : MetT P w K mg base 52 (He.ga K "RatFun") "__neg__" [vF K f] [] (vF K (-f)) := by
  obtain ⟨fd, F⟩ := V.W.fd_F_neg
  have sz1 := h.sz
  have l1 := sz1.ln
  refine mk_met V.W.cl_F V.W.me_F_neg (fn_V F sc_F_neg rfl fun cdv A outer s H E Q hr q => ?_) (b1 F)
  obtain ⟨o1, e1⟩ := fok_neg h hs
  exact s_retV (e_eq (e_mk (F_mk V _ _ o1) hr (by omega) rfl (a_cons (e_un (e_fld (e_nm 0) V.W.cl_F V.W.na_F_num rfl) (u_own (P_neg V f.num (by omega)) hr (by omega))) (a_cons (e_fld (e_nm 0) V.W.cl_F V.W.na_F_den rfl) a_nil))) (by rw [e1])) rfl q
theorem F_inverse (V : Ev P K mg) {f : RF} {a : Nat} (h : Cost a f) (hs : a ≤ 50) (hf : f ≠ 0) : MetT P w K mg base 52 (He.ga K "RatFun") "inverse" [vF K f] [] (vF K f⁻¹) := by
  obtain ⟨fd, F⟩ := V.W.fd_F_inverse
  have hfn : f.num ≠ 0 := fun z => hf (RF.num_zero.mp z)
  refine mk_met V.W.cl_F V.W.me_F_inverse (fn_V F sc_F_inverse rfl fun cdv A outer s H E Q hr q => ?_) (b1 F)
  obtain ⟨o1, e1⟩ := fok_inv h hs hf
  refine s_ifR (k := false) (t_val (e_eq (e_mth0 (ks := ["row"]) (P_is_zero V f.num) rfl (by decide) hr (by omega) (e_fld (e_nm 0) V.W.cl_F V.W.na_F_num rfl)) (by rw [decide_eq_false hfn]))) (fun z => absurd z Bool.false_ne_true) fun _ => ?_
  exact s_retV (e_eq (e_mk (F_mk V _ _ o1) hr (by omega) rfl (a_cons (e_fld (e_nm 0) V.W.cl_F V.W.na_F_den rfl) (a_cons (e_fld (e_nm 0) V.W.cl_F V.W.na_F_num rfl) a_nil))) (by rw [e1])) rfl q
theorem F_derivative (V : Ev P K mg) {f : RF} {c : Nat} (h : Cost c f) (hc : c ≤ 25) : MetT P w K mg base 52 (He.ga K "RatFun") "derivative" [vF K f] [] (vF K f.d) := by
  obtain ⟨fd, F⟩ := V.W.fd_F_derivative
  have d := h.der hc
  have sz1 := h.sz
  have l1 := sz1.ln
  have l2 := sz1.ld
  have ln := D_len_le f.num
  have ld := D_len_le f.den
  have t1 := mul_len_le f.num.D f.den
  have t2 := mul_len_le f.num f.den.D
  refine mk_met V.W.cl_F V.W.me_F_derivative (fn_V F sc_F_derivative rfl fun cdv A outer s H E Q hr q => ?_) (b1 F)
  refine s_asg 1 (e_bin (e_bin (e_mth0 (ks := ["row"]) (P_derivative V f.num d.pn (by omega)) rfl (by decide) hr (by omega) (e_fld (e_nm 0) V.W.cl_F V.W.na_F_num rfl)) (e_fld (e_nm 0) V.W.cl_F V.W.na_F_den rfl) (o_own (op := .Mult) (P_mul V f.num.D f.den d.m1 (by omega) (by omega)) V.W.m.sP hr (by omega))) (e_bin (e_fld (e_nm 0) V.W.cl_F V.W.na_F_num rfl) (e_mth0 (ks := ["row"]) (P_derivative V f.den d.pd (by omega)) rfl (by decide) hr (by omega) (e_fld (e_nm 0) V.W.cl_F V.W.na_F_den rfl)) (o_own (op := .Mult) (P_mul V f.num f.den.D d.m2 (by omega) (by omega)) V.W.m.sP hr (by omega))) (o_own (op := .Sub) (P_sub V _ _ d.s1 d.s2 (by omega) (by omega)) V.W.m.sP hr (by omega))) ?_ sc_F_derivative.nd
  exact s_retV (e_eq (e_mk (F_mk V _ _ d.ok) hr (by omega) rfl (a_cons (e_nm 1) (a_cons (e_bin (e_fld (e_nm 0) V.W.cl_F V.W.na_F_den rfl) (e_fld (e_nm 0) V.W.cl_F V.W.na_F_den rfl) (o_own (op := .Mult) (P_mul V f.den f.den d.dd (by omega) (by omega)) V.W.m.sP hr (by omega))) a_nil))) (by rw [d.e])) rfl q
theorem of_poly_c (V : Ev P K mg) {p : Pol} {c : Nat} (h : Cost c (frac p 1)) (hc : c ≤ 50) : CalT P w K mg base 52 "of_poly" [vP K p] [] (vF K (frac p 1)) := by
  obtain ⟨fd, F⟩ := V.W.fd_of_poly
  refine mk_cal (fn_V F sc_of_poly rfl fun cdv A outer s H E Q hr q => ?_) V.W.gl_of_poly F.kp (b1 F)
  exact s_retV (e_mk (F_mk V p 1 (fok_one h hc)) hr (by omega) rfl (a_cons (e_nm 0) (a_cons (e_call (constant_c V 1) hr (by omega) rfl (a_cons (e_callN (one_c' V) hr (by omega) rfl) a_nil)) a_nil))) rfl q
theorem of_ratio_c (V : Ev P K mg) {r : Rat} {c : Nat} (h : Cost c (cR r)) (hc : c ≤ 50) : CalT P w K mg base 54 "of_ratio" [vR K r] [] (vF K (cR r)) := by
  obtain ⟨fd, F⟩ := V.W.fd_of_ratio
  refine mk_cal (fn_V F sc_of_ratio rfl fun cdv A outer s H E Q hr q => ?_) V.W.gl_of_ratio F.kp (b1 F)
  exact s_retV (e_call (of_poly_c V (p := cst r) h hc) hr (by omega) rfl (a_cons (e_call (constant_c V r) hr (by omega) rfl (a_cons (e_nm 0) a_nil)) a_nil)) rfl q
theorem vF_inj {f g : RF} {v : V} {H : Hp} (h : (vF K f).p v H) (k : (vF K g).p v H) : f = g := by
  obtain ⟨a, dx, gs, rfl, e, fi⟩ := h
  obtain ⟨b, dy, gs2, e2, e3, fi2⟩ := k
  cases e2
  rw [e] at e3
  cases e3
  match gs, fi, fi2 with
  | [(_, x), (_, y)], fi, fi2 => exact RF.eq_of (vP_inj fi.2.1 fi2.2.1) (vP_inj fi.2.2.2.1 fi2.2.2.2.1)
end
end K31
set_option Elab.async false
set_option linter.all false
set_option maxRecDepth 100000
set_option maxHeartbeats 2000000
/-! W15: what may be reckoned; rows of functions. -/
namespace K31
open PySem PySem.Spec L2
/-- f with a cost of at most n -/
def Co (n : Nat) (f : RF) : Prop := ∃ a, Cost a f ∧ a ≤ n
def Co2 (f g : RF) : Prop := ∃ a b, Cost a f ∧ Cost b g ∧ a + b ≤ 50
/-- a sum may be reckoned: the costs, or the two cancel -/
def CanAdd (f g : RF) : Prop := Co2 f g ∨ (g = -f ∧ Co 50 f)
theorem neg_parts (f : RF) : (-f).num = -f.num ∧ (-f).den = f.den := by
  obtain ⟨u, v, e⟩ := f.cop
  have h : frac (-f.num) f.den = ⟨-f.num, f.den, f.mon, ⟨-u, v, by grind⟩⟩ := frac_of f.den_ne rfl
  have h2 : (-f : RF) = frac (-f.num) f.den := rfl
  rw [h2, h]
  exact ⟨rfl, rfl⟩
theorem RF.zero_num : (0 : RF).num = 0 := RF.num_zero.mpr rfl
theorem cost_zero' : Cost 0 (0 : RF) := Cost.zero
section
variable {P : Program} {w : World} {K : PySem.W.Frag} {mg : Str → Option Value} {base : Heap}
theorem F_addC (V : Ev P K mg) {f g : RF} (h : CanAdd f g) : MetT P w K mg base 52 (He.ga K "RatFun") "__add__" [vF K f, vF K g] [] (vF K (f + g)) := by
  rcases h with ⟨a, b, h, k, hs⟩ | ⟨e, a, h, ha⟩
  · exact F_add V h k hs
  · subst e
    obtain ⟨fd, F⟩ := V.W.fd_F_add
    have sz1 := h.sz
    have l1 := sz1.ln
    have l2 := sz1.ld
    have hb := costBits_50 a ha
    have hS0 := S0_eq
    have hSZ : 24000 < SZ := by decide
    obtain ⟨e1, e2⟩ := neg_parts f
    have rn : PRB f.num := sz1.pn.rb (by omega)
    have ez : f.num + (-f).num = 0 := by rw [e1]; grind
    have ef : frac 0 f.den = 0 := by
      have : frac (0 : Pol) f.den = frac 0 1 := frac_eq f.den_ne one_ne (by grind)
      rw [this]; rfl
    have ok : FOk (f.num + (-f).num) f.den := by
      rw [ez]
      exact fok_of (c := 0) f.den_ne ⟨1, Nat.one_pos, Nat.one_le_two_pow, fun i => by rw [zero_c]; exact Fr.zero⟩ (sz1.pd.mono (by omega)) (by rw [len_zero]; omega) (by omega) (by rw [ef]; exact Cost.zero) (by omega)
    have e3 : frac (f.num + (-f).num) f.den = f + -f := by
      rw [ez, ef]; grind
    refine mk_met V.W.cl_F V.W.me_F_add (fn_V F sc_F_add rfl fun cdv A outer s H E Q hr q => ?_) (b2 F)
    refine s_ifR (k := true) (t_eq (t_cmp (e_fld (e_nm 0) V.W.cl_F V.W.na_F_den rfl) (e_fld (e_nm 1) V.W.cl_F V.W.na_F_den rfl) (o_ownEq (P_eq V f.den (-f).den) hr (by omega))) (decide_eq_true e2.symm)) (fun e => ?_) fun z => absurd z (by decide)
    exact s_retV (e_eq (e_mk (F_mk V _ _ ok) hr (by omega) rfl (a_cons (e_bin (e_fld (e_nm 0) V.W.cl_F V.W.na_F_num rfl) (e_fld (e_nm 1) V.W.cl_F V.W.na_F_num rfl) (o_own (op := .Add) (P_add V f.num (-f).num rn (by rw [e1]; exact rn.neg) (by omega) (by rw [e1, neg_len]; omega)) V.W.m.sP hr (by omega))) (a_cons (e_fld (e_nm 0) V.W.cl_F V.W.na_F_den rfl) a_nil))) (by rw [e3])) rfl q
theorem F_mulC (V : Ev P K mg) {f g : RF} (h : Co2 f g) : MetT P w K mg base 52 (He.ga K "RatFun") "__mul__" [vF K f, vF K g] [] (vF K (f * g)) := by
  obtain ⟨a, b, h, k, hs⟩ := h
  exact F_mul V h k hs
theorem F_subC (V : Ev P K mg) {f g : RF} (h : Co2 f g) : MetT P w K mg base 52 (He.ga K "RatFun") "__sub__" [vF K f, vF K g] [] (vF K (f - g)) := by
  obtain ⟨a, b, h, k, hs⟩ := h
  exact F_sub V h k hs
theorem F_divC (V : Ev P K mg) {f g : RF} (h : Co2 f g) (hg : g ≠ 0) : MetT P w K mg base 52 (He.ga K "RatFun") "__floordiv__" [vF K f, vF K g] [] (vF K (f / g)) := by
  obtain ⟨a, b, h, k, hs⟩ := h
  exact F_floordiv V h k hs hg
theorem F_negC (V : Ev P K mg) {f : RF} (h : Co 50 f) : MetT P w K mg base 52 (He.ga K "RatFun") "__neg__" [vF K f] [] (vF K (-f)) := by
  obtain ⟨a, h, hs⟩ := h
  exact F_neg V h hs
theorem F_invC (V : Ev P K mg) {f : RF} (h : Co 50 f) (hf : f ≠ 0) : MetT P w K mg base 52 (He.ga K "RatFun") "inverse" [vF K f] [] (vF K f⁻¹) := by
  obtain ⟨a, h, hs⟩ := h
  exact F_inverse V h hs hf
theorem F_dC (V : Ev P K mg) {f : RF} (h : Co 25 f) : MetT P w K mg base 52 (He.ga K "RatFun") "derivative" [vF K f] [] (vF K f.d) := by
  obtain ⟨a, h, hs⟩ := h
  exact F_derivative V h hs
theorem of_zero (V : Ev P K mg) {X : Cx} {G : Ctx} {j : Nat} {p1 p2 pos : Pos} (hX : X.prog = P ∧ X.w = w ∧ X.K = K ∧ X.mg = mg ∧ X.base = base) (hr : Room j X.A) (hj : 54 ≤ j) (hg : Gl X "of_ratio") (hg2 : Gl X "zero") {M : MCtx}
    (hs : starEach [.Call (.Name "zero" p2) [] [] pos] X.env = (false, eval (.Call (.Name "zero" p2) [] [] pos) X.env) :: starEach [] X.env := by rfl) {pos2 : Pos} : TyE X (.Call (.Name "of_ratio" p1) [.Call (.Name "zero" p2) [] [] pos] [] pos2) G M (vF K 0) := by
  obtain ⟨rfl, rfl, rfl, rfl, rfl⟩ := hX
  exact e_call (of_ratio_c V (r := 0) (c := 0) Cost.zero (by omega)) hr hj hg (a_cons (e_callN (zero_c' V) hr (by omega) hg2) a_nil hs) (by decide) hs rfl
theorem of_one (V : Ev P K mg) {X : Cx} {G : Ctx} {j : Nat} {p1 p2 pos : Pos} (hX : X.prog = P ∧ X.w = w ∧ X.K = K ∧ X.mg = mg ∧ X.base = base) (hr : Room j X.A) (hj : 54 ≤ j) (hg : Gl X "of_ratio") (hg2 : Gl X "one") {M : MCtx}
    (hs : starEach [.Call (.Name "one" p2) [] [] pos] X.env = (false, eval (.Call (.Name "one" p2) [] [] pos) X.env) :: starEach [] X.env := by rfl) {pos2 : Pos} : TyE X (.Call (.Name "of_ratio" p1) [.Call (.Name "one" p2) [] [] pos] [] pos2) G M (vF K 1) := by
  obtain ⟨rfl, rfl, rfl, rfl, rfl⟩ := hX
  exact e_call (of_ratio_c V (r := 1) (c := 0) Cost.one (by omega)) hr hj hg (a_cons (e_callN (one_c' V) hr (by omega) hg2) a_nil hs) (by decide) hs rfl
end
/-! ### rows -/
def vFs (K : PySem.W.Frag) (l : List RF) : List VP := l.map (vF K)
theorem vFs_len {K : PySem.W.Frag} {l : List RF} : (vFs K l).length = l.length := List.length_map _
theorem vFs_at {K : PySem.W.Frag} {l : List RF} {i : Nat} (h : i < (vFs K l).length) : atP (vFs K l) i = vF K (l.getD i 0) := atP_map h
theorem vFs_get {K : PySem.W.Frag} {l : List RF} {i : Nat} (h : i < l.length) : (vFs K l)[i]? = some (vF K (l.getD i 0)) := by
  have := atP_get (Ps := vFs K l) (i := i) (by rw [vFs_len]; exact h)
  rw [vFs_at (by rw [vFs_len]; exact h)] at this
  exact this
theorem range_vFs {K : PySem.W.Frag} {n : Nat} {f : Nat → RF} : (List.range n).map (fun i => vF K (f i)) = vFs K ((List.range n).map f) := by
  unfold vFs
  rw [List.map_map]; rfl
theorem vFs_app {K : PySem.W.Frag} (l m : List RF) : vFs K (l ++ m) = vFs K l ++ vFs K m := List.map_append
theorem frow_set {K : PySem.W.Frag} {l m : List RF} {i : Nat} {x : RF} (hl : l.length = m.length) (h : ∀ t, t < l.length → m.getD t 0 = if t = i then x else l.getD t 0) : (vFs K l).set i (vF K x) = vFs K m := by
  unfold vFs
  apply List.ext_getElem?
  intro t
  rw [List.getElem?_set, List.getElem?_map, List.getElem?_map]
  by_cases ht : t < l.length
  · have h1 := h t ht
    rw [List.getD_eq_getElem?_getD, List.getD_eq_getElem?_getD, List.getElem?_eq_getElem ht, List.getElem?_eq_getElem (show t < m.length by omega)] at h1
    rw [List.getElem?_eq_getElem ht, List.getElem?_eq_getElem (show t < m.length by omega)]
    have h1 : m[t] = if t = i then x else l[t] := h1
    by_cases e : i = t
    · subst e
      rw [if_pos rfl, if_pos (by simpa using ht)]
      show some _ = some (vF K m[i])
      rw [h1, if_pos rfl]
    · rw [if_neg e]
      show some (vF K l[t]) = some (vF K m[t])
      rw [h1, if_neg (fun z => e z.symm)]
  · rw [List.getElem?_eq_none (by omega), List.getElem?_eq_none (by omega)]
    by_cases e : i = t
    · rw [if_pos e, if_neg (by simp; omega)]; rfl
    · rw [if_neg e]
/-- add_rows -/
noncomputable def addU (F S : List RF) : List RF := (List.range F.length).map fun k => if k < S.length then F.getD k 0 + S.getD k 0 else F.getD k 0
noncomputable def addF (A B : List RF) : List RF := if A.length < B.length then addU B A else addU A B
def OkAdd (A B : List RF) : Prop := ∀ k, k < A.length → k < B.length → CanAdd (A.getD k 0) (B.getD k 0) ∧ CanAdd (B.getD k 0) (A.getD k 0)
noncomputable def scF (f : RF) (R : List RF) : List RF := (List.range R.length).map fun k => f * R.getD k 0
def OkSc (f : RF) (R : List RF) : Prop := ∀ k, k < R.length → Co2 f (R.getD k 0)
/-- advance_row as far as the k-th turn -/
noncomputable def adK (R : List RF) (k : Nat) : List RF := (List.range R.length).map (fun j => if 1 ≤ j ∧ j ≤ k then (R.getD j 0).d + R.getD (j - 1) 0 else (R.getD j 0).d) ++ (if k = R.length ∧ 0 < k then [R.getD (k - 1) 0] else [])
noncomputable def adF (R : List RF) : List RF := adK R R.length
def OkAd (R : List RF) : Prop := (∀ k, k < R.length → Co 25 (R.getD k 0)) ∧ ∀ k, k + 1 < R.length → CanAdd (R.getD (k + 1) 0).d (R.getD k 0)
section
variable {P : Program} {w : World} {K : PySem.W.Frag} {mg : Str → Option Value} {base : Heap}
theorem add_rows_c (V : Ev P K mg) (A B : List RF) (h : OkAdd A B) (hA : A.length ≤ 1000) (hB : B.length ≤ 1000) : CalT P w K mg base 54 "add_rows" [vSq (vFs K A), vSq (vFs K B)] [] (vLs (vFs K (addF A B))) := by
  obtain ⟨fd, F⟩ := V.W.fd_add_rows
  have nd := sc_add_rows.nd
  refine mk_cal (fn_V F sc_add_rows rfl fun cdv A' outer s H E Q hr q => ?_) V.W.gl_add_rows F.kp (b2 F)
  have fin : ∀ (U S : List RF) (D : Ends), D.rt = Q → U.length ≤ 1000 → S.length ≤ U.length → (∀ k, k < S.length → CanAdd (U.getD k 0) (S.getD k 0)) → addF A B = addU U S →
      SOk (cx0 P w K mg base N_add_rows "add_rows" (defScope st_add_rows) (He.fAd K ("add_rows", none)) cdv A' outer s H E) ((defBody st_add_rows).drop 1) H [some (vSq (vFs K U)), some (vSq (vFs K S)), none, none] [] D := by
    intro U S D hD hU hS hc he
    refine s_asgN 2 (n_lst a_nil) (fun ad => ?_) nd
    refine s_for (I := Unit) (pit_n (p_range1 (i := ((U.length : Nat) : Int)) (e_eq (e_blt (c_len rfl) rfl V.W.fr_len PySem.boot_len (a_cons (e_nm 0) a_nil)) (by rw [vFs_len])) (by omega) (by omega) rfl V.W.fr_range) (show _ = U.length by omega)) (pg_name (i := 3) nd rfl (Or.inl rfl)) (fun i G => G.set 3 (some (vI (0 + (i : Nat))))) (go_name 3) (fun _ _ => True) (fun _ _ => [some (vSq (vFs K U)), some (vSq (vFs K S)), some (vAt ad), none]) (fun k _ => [.l ad (vFs K ((addU U S).take k))]) () trivial ⟨rfl, rfl, rfl, trivial⟩ rfl (fun Hb k _ sm hk _ => ?_) (fun Hb _ sm _ => ?_) .never
    · have ek : (0 : Int) + (k : Nat) = ((k : Nat) : Int) := by omega
      rw [ek]
      have hlen : (addU U S).length = U.length := by unfold addU; rw [List.length_map, List.length_range]
      have hto : (addU U S).take (k + 1) = (addU U S).take k ++ [if k < S.length then U.getD k 0 + S.getD k 0 else U.getD k 0] := by
        rw [List.take_succ, List.getElem?_eq_getElem (by rw [hlen]; exact hk)]
        unfold addU
        simp
      have hMl : ((vFs K ((addU U S).take k)).length ≤ 100000) := by rw [vFs_len, List.length_take]; omega
      refine s_if (k := decide (((k : Nat) : Int) < ((S.length : Nat) : Int))) (t_eq (t_cmp (e_nm (P := vI ((k : Nat) : Int)) 3) (e_blt (c_len rfl) rfl V.W.fr_len PySem.boot_len (a_cons (e_nm 1) a_nil)) o_lt) (by rw [vFs_len])) (fun hlt => ?_) fun hlt => ?_
      · have hlt := of_decide_eq_true hlt
        refine s_app 0 rfl (e_nm 2) (e_bin (e_ix (i := k) (e_nm 0) (e_nm (P := vI ((k : Nat) : Int)) 3) (vFs_get hk)) (e_ix (i := k) (e_nm 1) (e_nm (P := vI ((k : Nat) : Int)) 3) (vFs_get (by omega))) (o_own (op := .Add) (F_addC V (hc k (by omega))) V.W.m.sF hr (by omega))) hMl ?_
        refine s_end ?_ rfl
        refine nx_ok () trivial rfl ⟨rfl, rfl, rfl, trivial⟩ ?_
        show [MT.l ad _] = [MT.l ad _]
        rw [hto, vFs_app, if_pos (by omega)]; rfl
      · have hlt := of_decide_eq_false hlt
        refine s_app 0 rfl (e_nm 2) (e_ix (i := k) (e_nm 0) (e_nm (P := vI ((k : Nat) : Int)) 3) (vFs_get hk)) hMl ?_
        refine s_end ?_ rfl
        refine nx_ok () trivial rfl ⟨rfl, rfl, rfl, trivial⟩ ?_
        show [MT.l ad _] = [MT.l ad _]
        rw [hto, vFs_app, if_neg (by omega)]; rfl
    · have hlen : (addU U S).length = U.length := by unfold addU; rw [List.length_map, List.length_range]
      refine s_calm 2 rfl ?_
      refine s_retV (e_eq (e_nm 2) ?_) hD fun v H' s' pv => q v H' (sm.trans s') pv
      rw [he, List.take_of_length_le (by omega)]
  refine s_if (k := decide (((A.length : Nat) : Int) < ((B.length : Nat) : Int))) (t_eq (t_cmp (e_blt (c_len rfl) rfl V.W.fr_len PySem.boot_len (a_cons (e_nm 0) a_nil)) (e_blt (c_len rfl) rfl V.W.fr_len PySem.boot_len (a_cons (e_nm 1) a_nil)) o_lt) (by rw [vFs_len, vFs_len])) (fun hk => ?_) fun hk => ?_
  · have hk := of_decide_eq_true hk
    refine s_par 0 1 (e_nm 1) (e_nm 0) ?_ nd
    exact s_end (fin B A _ rfl hB (by omega) (fun k h1 => (h k h1 (by omega)).2) (by unfold addF; rw [if_pos (by omega)])) rfl
  · have hk := of_decide_eq_false hk
    exact s_end (fin A B _ rfl hA (by omega) (fun k h1 => (h k (by omega) h1).1) (by unfold addF; rw [if_neg (by omega)])) rfl
theorem scale_row_c (V : Ev P K mg) (f : RF) (R : List RF) (h : OkSc f R) (hR : R.length ≤ 1000) : CalT P w K mg base 54 "scale_row" [vF K f, vSq (vFs K R)] [] (vLs (vFs K (scF f R))) := by
  obtain ⟨fd, F⟩ := V.W.fd_scale_row
  have nd := sc_scale_row.nd
  refine mk_cal (fn_V F sc_scale_row rfl fun cdv A' outer s H E Q hr q => ?_) V.W.gl_scale_row F.kp (b2 F)
  refine s_retV (e_eq (TyN.ty (n_lcG (own := [("c", 2)]) (vs := [2]) (Zp := fun i => vF K (f * R.getD i 0)) (pi_seq (e_nm 1)) (by rw [vFs_len]; omega) nd (blk0 (by decide +kernel)) rfl (gow_name 2) (fun _ _ _ _ _ => pg_name (i := 2) nd rfl (Or.inl rfl)) (fun s2 H2 C cl fp i hi => ?_))) ?_) rfl q
  · have hi2 : i < R.length := by rw [vFs_len] at hi; exact hi
    exact e_bin (e_nm 0) (e_eq (e_nm 2) (vFs_at hi)) (o_own (op := .Mult) (F_mulC V (h i hi2)) V.W.m.sF hr (by omega))
  · rw [vFs_len, range_vFs]; rfl
theorem advance_row_c (V : Ev P K mg) (R : List RF) (h : OkAd R) (hR : R.length ≤ 1000) : CalT P w K mg base 54 "advance_row" [vSq (vFs K R)] [] (vLs (vFs K (adF R))) := by
  obtain ⟨fd, F⟩ := V.W.fd_advance_row
  have nd := sc_advance_row.nd
  refine mk_cal (fn_V F sc_advance_row rfl fun cdv A' outer s H E Q hr q => ?_) V.W.gl_advance_row F.kp (b1 F)
  refine s_lcG 1 (own := [("c", 3)]) (vs := [3]) (n := R.length) (Zp := fun i => vF K (R.getD i 0).d) (pit_n (pi_seq (e_nm 0)) vFs_len) (by omega) nd (blk0 (by decide +kernel)) rfl (gow_name 3) (fun _ _ _ _ _ => pg_name (i := 3) nd rfl (Or.inl rfl)) (fun s2 H2 C cl fp i hi => ?_) (fun ad => ?_)
  · exact e_mth0 (ks := ["num", "den"]) (F_dC V (h.1 i hi)) rfl (by decide) hr (by omega) (e_eq (e_nm 3) (vFs_at (by rw [vFs_len]; exact hi)))
  have e0 : (List.range R.length).map (fun i => vF K (R.getD i 0).d) = vFs K (adK R 0) := by
    rw [range_vFs]
    unfold adK
    rw [if_neg (by omega), List.append_nil]
    congr 1
    apply List.map_congr_left
    intro j hj
    rw [if_neg (by omega)]
  rw [e0]
  have hlen : ∀ k, k < R.length → (adK R k).length = R.length := fun k hk => by
    unfold adK
    rw [if_neg (by omega), List.append_nil, List.length_map, List.length_range]
  have hget : ∀ k j, j < R.length → (adK R k).getD j 0 = if 1 ≤ j ∧ j ≤ k then (R.getD j 0).d + R.getD (j - 1) 0 else (R.getD j 0).d := fun k j hj => by
    unfold adK
    rw [List.getD_eq_getElem?_getD, List.getElem?_append_left (by simpa using hj), List.getElem?_map, List.getElem?_range hj]; rfl
  refine s_for (I := Unit) (pit_n (p_range1 (i := ((R.length : Nat) : Int)) (e_eq (e_blt (c_len rfl) rfl V.W.fr_len PySem.boot_len (a_cons (e_nm 0) a_nil)) (by rw [vFs_len])) (by omega) (by omega) rfl V.W.fr_range) (show _ = R.length by omega)) (pg_name (i := 2) nd rfl (Or.inl rfl)) (fun i G => G.set 2 (some (vI (0 + (i : Nat))))) (go_name 2) (fun _ _ => True) (fun _ _ => [some (vSq (vFs K R)), some (vAt ad), none, none]) (fun k _ => [.l ad (vFs K (adK R k))]) () trivial ⟨rfl, rfl, trivial⟩ rfl (fun Hb k _ sm hk _ => ?_) (fun Hb _ sm _ => ?_) .never
  · have ek : (0 : Int) + (k : Nat) = ((k : Nat) : Int) := by omega
    rw [ek]
    refine s_if (k := decide (((k + 1 : Nat) : Int) < ((R.length : Nat) : Int))) (t_eq (t_cmp (e_eq (e_bin (e_nm (P := vI ((k : Nat) : Int)) 2) (e_int (i := 1)) o_add) (show vI (((k : Nat) : Int) + 1) = vI ((k + 1 : Nat) : Int) by congr 1)) (e_blt (c_len rfl) rfl V.W.fr_len PySem.boot_len (a_cons (e_nm 0) a_nil)) o_lt) (by rw [vFs_len])) (fun hlt => ?_) fun hlt => ?_
    · have hlt := of_decide_eq_true hlt
      have hk1 : k + 1 < R.length := by omega
      have hv : (adK R k).getD (k + 1) 0 = (R.getD (k + 1) 0).d := by rw [hget k _ hk1, if_neg (by omega)]
      refine s_setL 0 (i := k + 1) rfl (e_bin (e_ixM 0 (i := k + 1) rfl (e_nm 1) (e_eq (e_bin (e_nm (P := vI ((k : Nat) : Int)) 2) (e_int (i := 1)) o_add) (show vI (((k : Nat) : Int) + 1) = vI ((k + 1 : Nat) : Int) by congr 1)) (vFs_get (by rw [hlen k hk]; exact hk1))) (e_ix (i := k) (e_nm 0) (e_nm (P := vI ((k : Nat) : Int)) 2) (vFs_get hk)) (o_own (op := .Add) (F_addC V (by rw [hv]; exact h.2 k hk1)) V.W.m.sF hr (by omega))) (e_nm 1) (e_eq (e_bin (e_nm (P := vI ((k : Nat) : Int)) 2) (e_int (i := 1)) o_add) (show vI (((k : Nat) : Int) + 1) = vI ((k + 1 : Nat) : Int) by congr 1)) (by rw [vFs_len, hlen k hk]; exact hk1) ?_
      refine s_end ?_ rfl
      refine nx_ok () trivial rfl ⟨rfl, rfl, trivial⟩ ?_
      show [MT.l ad _] = [MT.l ad _]
      rw [frow_set (m := adK R (k + 1)) (by rw [hlen k hk, hlen (k + 1) hk1]) fun t ht => ?_]
      rw [hlen k hk] at ht
      rw [hget (k + 1) t ht, hget k t ht, hv]
      by_cases e : t = k + 1
      · subst e
        rw [if_pos rfl, if_pos ⟨by omega, by omega⟩]; rfl
      · rw [if_neg e]
        by_cases e2 : 1 ≤ t ∧ t ≤ k
        · rw [if_pos e2, if_pos ⟨e2.1, by omega⟩]
        · rw [if_neg e2, if_neg (by omega)]
    · have hlt := of_decide_eq_false hlt
      have hk1 : k + 1 = R.length := by omega
      refine s_app 0 rfl (e_nm 1) (e_ix (i := k) (e_nm 0) (e_nm (P := vI ((k : Nat) : Int)) 2) (vFs_get hk)) (by rw [vFs_len, hlen k hk]; omega) ?_
      refine s_end ?_ rfl
      refine nx_ok () trivial rfl ⟨rfl, rfl, trivial⟩ ?_
      show [MT.l ad _] = [MT.l ad _]
      have : adK R (k + 1) = adK R k ++ [R.getD k 0] := by
        unfold adK
        rw [if_pos ⟨hk1, by omega⟩, if_neg (by omega), List.append_nil]
        congr 1
        apply List.map_congr_left
        intro j hj
        have hj := List.mem_range.mp hj
        by_cases e2 : 1 ≤ j ∧ j ≤ k
        · rw [if_pos e2, if_pos ⟨e2.1, by omega⟩]
        · rw [if_neg e2, if_neg (by omega)]
      rw [this, vFs_app]; rfl
  · refine s_calm 1 rfl ?_
    exact s_retV (e_eq (e_nm 1) rfl) rfl fun v H' s' pv => q v H' (sm.trans s') pv
end
end K31
set_option Elab.async false
set_option linter.all false
set_option maxRecDepth 100000
set_option maxHeartbeats 2000000
/-! W16: Operator. -/
namespace K31
open PySem PySem.Spec L2
noncomputable def trimF : List RF → List RF
  | [] => []
  | a :: l => if trimF l = [] ∧ a = 0 then [] else a :: trimF l
theorem trimF_take : ∀ (l : List RF) (s : Nat), s ≤ l.length → (∀ i, s ≤ i → l.getD i 0 = 0) → (s = 0 ∨ l.getD (s - 1) 0 ≠ 0) → l.take s = trimF l
  | [], s, _, _, _ => by simp [trimF]
  | a :: l, 0, _, h2, _ => by
    have h1 := trimF_take l 0 (Nat.zero_le _) (fun i _ => h2 (i + 1) (Nat.zero_le _)) (.inl rfl)
    have h0 : a = 0 := h2 0 (Nat.le_refl _)
    rw [trimF, if_pos ⟨by rw [← h1]; rfl, h0⟩]; rfl
  | a :: l, s + 1, hs, h2, h3 => by
    have h1 := trimF_take l s (by simpa using hs) (fun i hi => h2 (i + 1) (by omega)) (by
      by_cases e : s = 0
      · exact .inl e
      · refine .inr ?_
        rcases h3 with z | z
        · omega
        · rw [show s + 1 - 1 = (s - 1) + 1 by omega] at z
          exact z)
    rw [trimF, ← h1, List.take_succ_cons, if_neg]
    rintro ⟨e1, e2⟩
    rcases h3 with z | z
    · omega
    · by_cases e : s = 0
      · subst e; exact z e2
      · have hl : l.take s = [] := e1
        have : (l.take s).length = 0 := by rw [hl]; rfl
        rw [List.length_take] at this
        simp at hs
        omega
theorem trimF_len (l : List RF) : (trimF l).length ≤ l.length := by
  induction l with
  | nil => exact Nat.le_refl _
  | cons a l ih =>
    rw [trimF]
    split
    · exact Nat.zero_le _
    · rw [List.length_cons, List.length_cons]; omega
theorem e_slS {X : Cx} {G : Ctx} {M : MCtx} {Ps : List VP} {a b : Expr} {pos : Pos} {k : Nat} {p2 : Pos} (ha : TyE X a G M (vSq Ps)) (hb : TyE X b G M (vI (k : Int))) : TyE X (.Subscript a (.Slice none (some b) none p2) pos) G M (vSq (Ps.take k)) :=
  PE.imp (pe_slice (sl_tupA.or sl_list) ha po_none (po_some hb)) fun t H Q ⟨Hf, o, m, q⟩ => ⟨Hf, o, m, fun v Hf' H' s m' pv => ⟨Hf', o.mono s, m', fun w Hf2 H2 s2 m2 (pw : w = .int k) => ⟨k, pw, by
    rcases pv with ⟨ad, xs, rfl, hx, its⟩ | ⟨ad, xs, rfl, hx, its⟩
    · refine .inl ⟨ad, xs, rfl, SqT.of (m2.same _ _ (s2 _ _ hx)), fun h => ?_, fun h p hp => ?_⟩
      · refine q _ Hf2 H2 (s.trans s2) m2 (.inl ⟨ad, xs, rfl, s2 _ _ hx, ?_⟩)
        have hk : xs.length ≤ k := by
          have h2 := h.2
          simp only [HT.sIx] at h2
          split at h2 <;> omega
        rw [List.take_of_length_le (by rw [← its.len]; exact hk)]
        exact its.mono s2
      · rw [cut_to]
        exact q _ (upd Hf2 p _) _ ((s.trans s2).trans (same_upd (m2.free hp))) (m2.new hp) (.inl ⟨p, _, rfl, upd_same, (its.mono (s2.trans (same_upd (m2.free hp)))).take k⟩)
    · refine .inr ⟨ad, xs, rfl, SqL.of (m2.same _ _ (s2 _ _ hx)), fun p hp => ?_⟩
      rw [cut_to]
      exact q _ (upd Hf2 p _) _ ((s.trans s2).trans (same_upd (m2.free hp))) (m2.new hp) (.inr ⟨p, _, rfl, upd_same, (its.mono (s2.trans (same_upd (m2.free hp)))).take k⟩)⟩⟩⟩
def vO (K : PySem.W.Frag) (l : List RF) : VP := vIn (He.ga K "Operator") [("coefficients", vTu (vFs K l))]
/-- multiply_rows, turn by turn -/
noncomputable def muS (s : List RF × List RF) (c : RF) : List RF × List RF := (addF s.1 (scF c s.2), adF s.2)
noncomputable def muK (A B : List RF) (k : Nat) : List RF × List RF := (A.take k).foldl muS ([], B)
noncomputable def muF (A B : List RF) : List RF := (A.foldl muS ([], B)).1
structure OkMuS (s : List RF × List RF) (c : RF) : Prop where
  sc : OkSc c s.2
  add : OkAdd s.1 (scF c s.2)
  ad : OkAd s.2
  l1 : s.1.length ≤ 1000
  l2 : s.2.length ≤ 1000
def OkMu (A B : List RF) : Prop := ∀ k, k < A.length → OkMuS (muK A B k) (A.getD k 0)
theorem fold_take {α β : Type} (f : β → α → β) (b : β) (d : α) (l : List α) (k : Nat) (hk : k < l.length) : (l.take (k + 1)).foldl f b = f ((l.take k).foldl f b) (l.getD k d) := by
  rw [List.take_succ, List.getElem?_eq_getElem hk, List.foldl_append, List.getD_eq_getElem?_getD, List.getElem?_eq_getElem hk]; rfl
theorem scF_len (f : RF) (R : List RF) : (scF f R).length = R.length := by unfold scF; rw [List.length_map, List.length_range]
/-- moved, turn by turn -/
noncomputable def mvS (u : RF) (s : List RF × List RF) (c : RF) : List RF × List RF := (addF s.1 (scF c s.2), addF (adF s.2) (scF u s.2))
structure OkMvS (u : RF) (s : List RF × List RF) (c : RF) : Prop where
  sc : OkSc c s.2
  add : OkAdd s.1 (scF c s.2)
  ad : OkAd s.2
  scu : OkSc u s.2
  addu : OkAdd (adF s.2) (scF u s.2)
  l1 : s.1.length ≤ 1000
  l2 : s.2.length ≤ 900
noncomputable def mvK (u : RF) (A : List RF) (k : Nat) : List RF × List RF := (A.take k).foldl (mvS u) ([], [1])
noncomputable def mvF (u : RF) (A : List RF) : List RF := trimF (A.foldl (mvS u) ([], [1])).1
def OkMv (u : RF) (A : List RF) : Prop := ∀ k, k < A.length → OkMvS u (mvK u A k) (A.getD k 0)
noncomputable def ngF (A : List RF) : List RF := (List.range A.length).map fun k => -(A.getD k 0)
theorem ngF_len (A : List RF) : (ngF A).length = A.length := by unfold ngF; rw [List.length_map, List.length_range]
noncomputable def monoF (f : RF) (k : Nat) : List RF := (List.range k).map (fun _ => (0 : RF)) ++ [f]
theorem monoF_len (f : RF) (k : Nat) : (monoF f k).length = k + 1 := by unfold monoF; simp
noncomputable def leadF (A : List RF) : RF := A.getD (A.length - 1) 0
theorem adF_len (R : List RF) : (adF R).length ≤ R.length + 1 := by
  unfold adF adK
  rw [List.length_append, List.length_map, List.length_range]
  split <;> simp
section
variable {P : Program} {w : World} {K : PySem.W.Frag} {mg : Str → Option Value} {base : Heap}
theorem multiply_rows_c (V : Ev P K mg) (A B : List RF) (h : OkMu A B) (hA : A.length ≤ 1000) (hB : B.length ≤ 1000) : CalT P w K mg base 56 "multiply_rows" [vSq (vFs K A), vSq (vFs K B)] [] (vLs (vFs K (muF A B))) := by
  obtain ⟨fd, F⟩ := V.W.fd_multiply_rows
  have nd := sc_multiply_rows.nd
  refine mk_cal (fn_V F sc_multiply_rows rfl fun cdv A' outer s H E Q hr q => ?_) V.W.gl_multiply_rows F.kp (b2 F)
  refine s_asg 2 (e_lst a_nil (show (0 : Nat) ≤ 100 by decide)) ?_ nd
  refine s_asg 3 (e_bty c_list rfl V.W.fr_list PyProof.Rows.boot_list (a_cons (e_nm 1) a_nil)) ?_ nd
  refine s_for (I := Unit) (pi_seq (e_nm 0)) (pg_name (i := 4) nd rfl (Or.inl rfl)) (fun i G => G.set 4 (some (atP (vFs K A) i))) (go_name 4) (fun _ _ => True) (fun k _ => [some (vSq (vFs K A)), some (vSq (vFs K B)), some (vLs (vFs K (muK A B k).1)), some (vLs (vFs K (muK A B k).2)), none]) (fun _ _ => []) () trivial ⟨rfl, rfl, rfl, rfl, trivial⟩ rfl (fun Hb k _ sm hk _ => ?_) (fun Hb _ sm _ => ?_) .never
  · rw [vFs_at hk]
    rw [vFs_len] at hk
    have o := h k hk
    have e : muK A B (k + 1) = muS (muK A B k) (A.getD k 0) := fold_take _ _ _ _ _ hk
    refine s_asg 2 (e_call (add_rows_c V (muK A B k).1 (scF (A.getD k 0) (muK A B k).2) o.add o.l1 (by rw [scF_len]; exact o.l2)) hr (by omega) rfl (a_cons (e_sqL (e_nm 2)) (a_cons (e_sqL (e_call (scale_row_c V _ _ o.sc o.l2) hr (by omega) rfl (a_cons (e_nm (P := vF K (A.getD k 0)) 4) (a_cons (e_sqL (e_nm 3)) a_nil)))) a_nil))) ?_ nd
    refine s_asg 3 (e_call (advance_row_c V _ o.ad o.l2) hr (by omega) rfl (a_cons (e_sqL (e_nm 3)) a_nil)) ?_ nd
    refine nx_ok () trivial rfl ?_ rfl
    rw [e]
    exact ⟨rfl, rfl, rfl, rfl, trivial⟩
  · refine s_retV (e_eq (e_nm 2) ?_) rfl fun v H' s' pv => q v H' (sm.trans s') pv
    rw [vFs_len]
    unfold muK muF
    rw [List.take_length]
theorem O_init_fn (V : Ev P K mg) {fd : FuncData} (F : FunD K "__init__" "Operator.__init__" (defArgs st_O_init) (defBody st_O_init) (defScope st_O_init) [] [] (He.fAd K ("Operator", some "__init__")) fd) (l : List RF) :
    FnOk P w K mg base CX0 5 (He.fAd K ("Operator", some "__init__")) fd p_O_init (spI (He.ga K "Operator") [vSq (vFs K l)] (vO K (trimF l))) := by
  have nd := sc_O_init.nd
  refine fn_I F sc_O_init rfl fun cdv A outer s H H0 E Q y dx hr q => ?_
  refine s_asg 2 (e_eq (e_blt (c_len rfl) rfl V.W.fr_len PySem.boot_len (a_cons (e_nm 1) a_nil)) (by rw [vFs_len])) ?_ nd
  refine s_while (I := Nat) (fun s => s ≤ l.length ∧ ∀ i, s ≤ i → l.getD i 0 = 0) (fun s => [some (vAt y), some (vSq (vFs K l)), some (vI ((s : Nat) : Int))]) (fun _ => [.i y dx (He.ga K "Operator") []]) (fun s => s) (fun s => decide (0 < ((s : Nat) : Int)) && decide (l.getD (s - 1) 0 = 0)) l.length ⟨Nat.le_refl _, fun i hi => by
      rw [List.getD_eq_getElem?_getD, List.getElem?_eq_none hi]; rfl⟩ ⟨rfl, rfl, rfl, trivial⟩ rfl (fun s hs => ?_) (fun Hb s sm hs hk => ?_) (fun Hb s sm hs hk => ?_) .never
  · refine t_w (w_and (t_cmp (e_nm 2) (e_int (i := 0)) o_gt) fun h => w_and1 (t_val (e_mth0 (ks := ["num", "den"]) (F_is_zero V (l.getD (s - 1) 0)) rfl (by decide) hr (by omega) (e_ix (i := s - 1) (e_nm 1) (e_eq (e_bin (e_nm 2) (e_int (i := 1)) o_sub) ?_) (vFs_get ?_)))))
    · have := of_decide_eq_true h
      rw [sub1_cast (by omega)]
    · have := of_decide_eq_true h
      omega
  · have h1 : 0 < s := by
      have := of_decide_eq_true (Bool.and_eq_true_iff.mp hk).1
      omega
    have h2 := of_decide_eq_true (Bool.and_eq_true_iff.mp hk).2
    refine s_asg (P := vI ((s - 1 : Nat) : Int)) 2 (e_eq (e_bin (e_nm 2) (e_int (i := 1)) o_sub) (by rw [sub1_cast h1])) ?_ nd
    have hz : ∀ i, s - 1 ≤ i → l.getD i 0 = 0 := fun i hi => by
      by_cases e : i = s - 1
      · rw [e]; exact h2
      · exact hs.2 i (by omega)
    exact nx_ok (s - 1) ⟨⟨by omega, hz⟩, by omega⟩ rfl ⟨rfl, rfl, rfl, trivial⟩ rfl
  · have et : (vFs K l).take s = vFs K (trimF l) := by
      unfold vFs
      rw [← List.map_take, trimF_take l s hs.1 hs.2]
      by_cases e : s = 0
      · exact .inl e
      · refine .inr fun z => ?_
        rw [z] at hk
        have : decide (0 < ((s : Nat) : Int)) = true := decide_eq_true (by omega)
        rw [this] at hk
        exact absurd hk (by simp)
    refine s_fld 0 rfl (e_nm 0) (e_bty c_tuple rfl V.W.fr_tuple PyProof.Rows.boot_tuple (a_cons (e_slS (e_nm 1) (e_nm 2)) a_nil)) V.W.cl_O V.W.na_O_coefficients (show (0 : Nat) < 1000 by decide) ?_
    refine s_nil fun t Hf H1 s1 o m => ?_
    refine q H1 ((sm.trans s1).trans m.same) ?_
    obtain ⟨gs, hx, its⟩ := m.atI (k := 0) rfl
    rw [et] at its
    exact ⟨y, dx, gs, rfl, hx, its.mono m.same⟩
theorem O_mk (V : Ev P K mg) (l : List RF) : MakT P w K mg base 5 "Operator" (He.ga K "Operator") [vSq (vFs K l)] [] (vO K (trimF l)) := by
  obtain ⟨fd, F⟩ := V.W.fd_O_init
  exact mk_mak V.W.mk_O (O_init_fn V F l) V.W.gc_Operator (b2 F)
theorem e_co (V : Ev P K mg) {X : Cx} {e : Expr} {G : Ctx} {M : MCtx} {A : List RF} {pos : Pos} (hX : X.K = K) (h : TyE X e G M (vO K A)) (hb : attributeBase e "coefficients" X.env (eval e X.env) = eval e X.env := by rfl) : TyE X (.Attribute e "coefficients" pos) G M (vTu (vFs K A)) := by
  subst hX
  exact e_fld h V.W.cl_O V.W.na_O_coefficients rfl hb
theorem O_eq (V : Ev P K mg) (A B : List RF) : MetT P w K mg base 48 (He.ga K "Operator") "__eq__" [vO K A, vO K B] [] (vB (decide (A = B))) := by
  obtain ⟨fd, F⟩ := V.W.fd_O_eq
  refine mk_met V.W.cl_O V.W.me_O_eq (fn_V F sc_O_eq rfl fun cdv A' outer s H E Q hr q => ?_) (b2 F)
  refine s_retV (e_eq (e_and (j := true) (e_blt (c_isO V.W.cl_O V.W.m.iO V.W.m.hn V.W.m.htk) rfl V.W.fr_isinstance PyProof.Rows.boot_isinstance (a_cons (e_nm 1) (a_cons (e_cls rfl V.W.gc_Operator) a_nil))) fun _ => e_one (e_cmp (e_co V rfl (e_nm 0)) (e_co V rfl (e_nm 1)) (o_eqTu (k := 46) A B (fun x y _ _ => F_eq V x y) (fun x y v H h k => vF_inj (K := K) h k) hr (by omega)))) ?_) rfl q
  rw [Bool.true_and]
theorem O_order (V : Ev P K mg) (A : List RF) : MetT P w K mg base 1 (He.ga K "Operator") "order" [vO K A] [] (vI ((A.length : Nat) - 1)) := by
  obtain ⟨fd, F⟩ := V.W.fd_O_order
  refine mk_met V.W.cl_O V.W.me_O_order (fn_V F sc_O_order rfl fun cdv A' outer s H E Q hr q => ?_) (b1 F)
  exact s_retV (e_eq (e_bin (e_blt (c_len rfl) rfl V.W.fr_len PySem.boot_len (a_cons (e_sqT (e_co V rfl (e_nm 0))) a_nil)) (e_int (i := 1)) o_sub) (by rw [vFs_len])) rfl q
theorem O_is_zero (V : Ev P K mg) (A : List RF) : MetT P w K mg base 1 (He.ga K "Operator") "is_zero" [vO K A] [] (vB (decide (A = []))) := by
  obtain ⟨fd, F⟩ := V.W.fd_O_is_zero
  refine mk_met V.W.cl_O V.W.me_O_is_zero (fn_V F sc_O_is_zero rfl fun cdv A' outer s H E Q hr q => ?_) (b1 F)
  refine s_retV (e_eq (e_cmp (e_blt (c_len rfl) rfl V.W.fr_len PySem.boot_len (a_cons (e_sqT (e_co V rfl (e_nm 0))) a_nil)) (e_int (i := 0)) o_eq) ?_) rfl q
  rw [vFs_len]
  congr 1
  refine decide_eq_decide.mpr ⟨fun h => List.length_eq_zero_iff.mp (by omega), fun h => by rw [h]; rfl⟩
theorem O_leading (V : Ev P K mg) (A : List RF) (hA : A ≠ []) : MetT P w K mg base 3 (He.ga K "Operator") "leading" [vO K A] [] (vF K (leadF A)) := by
  obtain ⟨fd, F⟩ := V.W.fd_O_leading
  have hl : 0 < A.length := List.length_pos_iff.mpr hA
  refine mk_met V.W.cl_O V.W.me_O_leading (fn_V F sc_O_leading rfl fun cdv A' outer s H E Q hr q => ?_) (b1 F)
  refine s_ifR (k := false) (t_val (e_eq (e_mth0 (ks := ["coefficients"]) (O_is_zero V A) rfl (by decide) hr (by omega) (e_nm 0)) (by rw [decide_eq_false hA]))) (fun z => absurd z Bool.false_ne_true) fun _ => ?_
  exact s_retV (e_ix (i := A.length - 1) (e_sqT (e_co V rfl (e_nm 0))) (e_eq (e_bin (e_blt (c_len rfl) rfl V.W.fr_len PySem.boot_len (a_cons (e_sqT (e_co V rfl (e_nm 0))) a_nil)) (e_int (i := 1)) o_sub) (by rw [vFs_len, sub1_cast hl])) (vFs_get (by omega))) rfl q
theorem O_scaled (V : Ev P K mg) (A : List RF) (f : RF) (h : OkSc f A) (hA : A.length ≤ 1000) : MetT P w K mg base 56 (He.ga K "Operator") "scaled" [vO K A, vF K f] [] (vO K (trimF (scF f A))) := by
  obtain ⟨fd, F⟩ := V.W.fd_O_scaled
  refine mk_met V.W.cl_O V.W.me_O_scaled (fn_V F sc_O_scaled rfl fun cdv A' outer s H E Q hr q => ?_) (b2 F)
  exact s_retV (e_mk (O_mk V (scF f A)) hr (by omega) rfl (a_cons (e_sqL (e_call (scale_row_c V f A h hA) hr (by omega) rfl (a_cons (e_nm 1) (a_cons (e_sqT (e_co V rfl (e_nm 0))) a_nil)))) a_nil)) rfl q
theorem O_monic (V : Ev P K mg) (A : List RF) (hA : A ≠ []) (h0 : leadF A ≠ 0) (hc : Co 50 (leadF A)) (h : OkSc (leadF A)⁻¹ A) (hl : A.length ≤ 1000) : MetT P w K mg base 58 (He.ga K "Operator") "monic" [vO K A] [] (vO K (trimF (scF (leadF A)⁻¹ A))) := by
  obtain ⟨fd, F⟩ := V.W.fd_O_monic
  refine mk_met V.W.cl_O V.W.me_O_monic (fn_V F sc_O_monic rfl fun cdv A' outer s H E Q hr q => ?_) (b1 F)
  exact s_retV (e_mth (ks := ["coefficients"]) (O_scaled V A _ h hl) rfl (by decide) hr (by omega) (e_nm 0) (a_cons (e_mth0 (ks := ["num", "den"]) (F_invC V hc h0) rfl (by decide) hr (by omega) (e_mth0 (ks := ["coefficients"]) (O_leading V A hA) rfl (by decide) hr (by omega) (e_nm 0))) a_nil)) rfl q
theorem O_add (V : Ev P K mg) (A B : List RF) (h : OkAdd A B) (hA : A.length ≤ 1000) (hB : B.length ≤ 1000) : MetT P w K mg base 56 (He.ga K "Operator") "__add__" [vO K A, vO K B] [] (vO K (trimF (addF A B))) := by
  obtain ⟨fd, F⟩ := V.W.fd_O_add
  refine mk_met V.W.cl_O V.W.me_O_add (fn_V F sc_O_add rfl fun cdv A' outer s H E Q hr q => ?_) (b2 F)
  exact s_retV (e_mk (O_mk V (addF A B)) hr (by omega) rfl (a_cons (e_sqL (e_call (add_rows_c V A B h hA hB) hr (by omega) rfl (a_cons (e_sqT (e_co V rfl (e_nm 0))) (a_cons (e_sqT (e_co V rfl (e_nm 1))) a_nil)))) a_nil)) rfl q
theorem O_neg (V : Ev P K mg) (A : List RF) (h : ∀ k, k < A.length → Co 50 (A.getD k 0)) (hA : A.length ≤ 1000) : MetT P w K mg base 54 (He.ga K "Operator") "__neg__" [vO K A] [] (vO K (trimF (ngF A))) := by
  obtain ⟨fd, F⟩ := V.W.fd_O_neg
  have nd := sc_O_neg.nd
  refine mk_met V.W.cl_O V.W.me_O_neg (fn_V F sc_O_neg rfl fun cdv A' outer s H E Q hr q => ?_) (b1 F)
  refine s_retV (e_mk (O_mk V (ngF A)) hr (by omega) rfl (a_cons (e_sqL (e_eq (TyN.ty (n_lcG (own := [("c", 1)]) (vs := [1]) (Zp := fun i => vF K (-(A.getD i 0))) (pi_seq (e_sqT (e_co V rfl (e_nm 0)))) (by rw [vFs_len]; omega) nd (blk0 (by decide +kernel)) rfl (gow_name 1) (fun _ _ _ _ _ => pg_name (i := 1) nd rfl (Or.inl rfl)) (fun s2 H2 C cl fp i hi => ?_))) ?_)) a_nil)) rfl q
  · have hi2 : i < A.length := by rw [vFs_len] at hi; exact hi
    exact e_un (e_eq (e_nm 1) (vFs_at hi)) (u_own (F_negC V (h i hi2)) hr (by omega))
  · rw [vFs_len, range_vFs]; rfl
theorem O_sub (V : Ev P K mg) (A B : List RF) (hn : ∀ k, k < B.length → Co 50 (B.getD k 0)) (h : OkAdd A (ngF B)) (hA : A.length ≤ 1000) (hB : B.length ≤ 1000) : MetT P w K mg base 56 (He.ga K "Operator") "__sub__" [vO K A, vO K B] [] (vO K (trimF (addF A (ngF B)))) := by
  obtain ⟨fd, F⟩ := V.W.fd_O_sub
  have nd := sc_O_sub.nd
  refine mk_met V.W.cl_O V.W.me_O_sub (fn_V F sc_O_sub rfl fun cdv A' outer s H E Q hr q => ?_) (b2 F)
  refine s_retV (e_mk (O_mk V (addF A (ngF B))) hr (by omega) rfl (a_cons (e_sqL (e_call (add_rows_c V A (ngF B) h hA (by rw [ngF_len]; exact hB)) hr (by omega) rfl (a_cons (e_sqT (e_co V rfl (e_nm 0))) (a_cons (e_sqL (e_eq (TyN.ty (n_lcG (own := [("c", 2)]) (vs := [2]) (Zp := fun i => vF K (-(B.getD i 0))) (pi_seq (e_sqT (e_co V rfl (e_nm 1)))) (by rw [vFs_len]; omega) nd (blk0 (by decide +kernel)) rfl (gow_name 2) (fun _ _ _ _ _ => pg_name (i := 2) nd rfl (Or.inl rfl)) (fun s2 H2 C cl fp i hi => ?_))) ?_)) a_nil)))) a_nil)) rfl q
  · have hi2 : i < B.length := by rw [vFs_len] at hi; exact hi
    exact e_un (e_eq (e_nm 2) (vFs_at hi)) (u_own (F_negC V (hn i hi2)) hr (by omega))
  · rw [vFs_len, range_vFs]; rfl
theorem O_mul (V : Ev P K mg) (A B : List RF) (h : OkMu A B) (hA : A.length ≤ 1000) (hB : B.length ≤ 1000) : MetT P w K mg base 58 (He.ga K "Operator") "__mul__" [vO K A, vO K B] [] (vO K (trimF (muF A B))) := by
  obtain ⟨fd, F⟩ := V.W.fd_O_mul
  refine mk_met V.W.cl_O V.W.me_O_mul (fn_V F sc_O_mul rfl fun cdv A' outer s H E Q hr q => ?_) (b2 F)
  exact s_retV (e_mk (O_mk V (muF A B)) hr (by omega) rfl (a_cons (e_sqL (e_call (multiply_rows_c V A B h hA hB) hr (by omega) rfl (a_cons (e_sqT (e_co V rfl (e_nm 0))) (a_cons (e_sqT (e_co V rfl (e_nm 1))) a_nil)))) a_nil)) rfl q
theorem of_function_c (V : Ev P K mg) (f : RF) : CalT P w K mg base 7 "of_function" [vF K f] [] (vO K (trimF [f])) := by
  obtain ⟨fd, F⟩ := V.W.fd_of_function
  refine mk_cal (fn_V F sc_of_function rfl fun cdv A outer s H E Q hr q => ?_) V.W.gl_of_function F.kp (b1 F)
  exact s_retV (e_mk (O_mk V [f]) hr (by omega) rfl (a_cons (e_sqT (e_tup (a_cons (e_nm 0) a_nil) (show (1 : Nat) ≤ 100 by decide))) a_nil)) rfl q
theorem monomial_c (V : Ev P K mg) (f : RF) (k : Nat) (hk : k ≤ 1000) : CalT P w K mg base 56 "monomial" [vF K f, vI (k : Int)] [] (vO K (trimF (monoF f k))) := by
  obtain ⟨fd, F⟩ := V.W.fd_monomial
  have nd := sc_monomial.nd
  refine mk_cal (fn_V F sc_monomial rfl fun cdv A outer s H E Q hr q => ?_) V.W.gl_monomial F.kp (b2 F)
  refine s_retV (e_mk (O_mk V (monoF f k)) hr (by omega) rfl (a_cons (e_sqL (e_eq (e_bin (e_eq (TyN.ty (n_lcG (own := [("_", 2)]) (vs := [2]) (Zp := fun _ => vF K 0) (p_range1 (i := (k : Int)) (e_nm 1) (by omega) (by omega) rfl V.W.fr_range) (by omega) nd (blk0 (by decide +kernel)) rfl (gow_name 2) (fun _ _ _ _ _ => pg_name (i := 2) nd rfl (Or.inl rfl)) (fun s2 H2 C cl fp i hi => ?_))) ?_) (e_lst (a_cons (e_nm 0) a_nil) (show (1 : Nat) ≤ 100 by decide)) (o_catL (Ps := vFs K ((List.range k).map fun _ => (0 : RF))) (Qs := vFs K [f]) ?_)) ?_)) a_nil)) rfl q
  · exact of_zero V ⟨rfl, rfl, rfl, rfl, rfl⟩ hr (by omega) (by rfl) (by rfl)
  · rw [show ((k : Int)).toNat = k by omega, range_vFs]
  · rw [vFs_len, vFs_len, List.length_map, List.length_range]; show k + 1 ≤ _; omega
  · unfold monoF
    rw [vFs_app]
theorem first_order_c (V : Ev P K mg) (u : RF) (h : Co 50 u) : CalT P w K mg base 56 "first_order" [vF K u] [] (vO K (trimF [-u, 1])) := by
  obtain ⟨fd, F⟩ := V.W.fd_first_order
  refine mk_cal (fn_V F sc_first_order rfl fun cdv A outer s H E Q hr q => ?_) V.W.gl_first_order F.kp (b1 F)
  exact s_retV (e_mk (O_mk V [-u, 1]) hr (by omega) rfl (a_cons (e_sqT (e_tup (a_cons (e_un (e_nm 0) (u_own (F_negC V h) hr (by omega))) (a_cons (of_one V ⟨rfl, rfl, rfl, rfl, rfl⟩ hr (by omega) (by rfl) (by rfl)) a_nil)) (show (2 : Nat) ≤ 100 by decide))) a_nil)) rfl q
end
end K31
set_option Elab.async false
set_option linter.all false
set_option maxRecDepth 100000
set_option maxHeartbeats 2000000
/-! W17: Operator: items, division, moved; euclid, left_multiple, quotient. -/
namespace K31
open PySem PySem.Spec L2
/-- one turn of a division -/
noncomputable def dvT (M R : List RF) : List RF := trimF (monoF (leadF R / leadF M) (R.length - M.length))
noncomputable def dvQ (M Q R : List RF) : List RF := trimF (addF Q (dvT M R))
noncomputable def dvR (M R : List RF) : List RF := trimF (addF R (ngF (trimF (muF (dvT M R) M))))
structure DvOk (M Q R : List RF) : Prop where
  le : M.length ≤ R.length
  lr : R.length ≤ 900
  lq : Q.length ≤ 900
  ld : Co2 (leadF R) (leadF M)
  add : OkAdd Q (dvT M R)
  mul : OkMu (dvT M R) M
  neg : ∀ k, Co 50 ((trimF (muF (dvT M R) M)).getD k 0)
  sub : OkAdd R (ngF (trimF (muF (dvT M R) M)))
  ml : (trimF (muF (dvT M R) M)).length ≤ 1000
def DvRun (M Qf Rf : List RF) : Nat → List RF → List RF → Prop
  | 0, Q, R => R.length < M.length ∧ Q = Qf ∧ R = Rf
  | n + 1, Q, R => DvOk M Q R ∧ DvRun M Qf Rf n (dvQ M Q R) (dvR M R)
/-- euclid -/
structure EuS where
  a : List RF
  b : List RF
  u : List RF
  v : List RF
  s : List RF
  t : List RF
noncomputable def subQ (U q s : List RF) : List RF := trimF (addF U (ngF (trimF (muF q s))))
structure SubOk (U q s : List RF) : Prop where
  mul : OkMu q s
  neg : ∀ k, Co 50 ((trimF (muF q s)).getD k 0)
  sub : OkAdd U (ngF (trimF (muF q s)))
  l1 : q.length ≤ 1000
  l2 : s.length ≤ 1000
  l3 : U.length ≤ 1000
  l4 : (trimF (muF q s)).length ≤ 1000
def EuRun (f : EuS) : Nat → EuS → Prop
  | 0, i => i.b = [] ∧ i = f
  | n + 1, i => i.b ≠ [] ∧ leadF i.b ≠ 0 ∧ i.b.length ≤ 1000 ∧ ∃ (k : Nat) (q r : List RF), DvRun i.b q r k [] i.a ∧ SubOk i.u q i.s ∧ SubOk i.v q i.t ∧ EuRun f n ⟨i.b, r, i.s, i.t, subQ i.u q i.s, subQ i.v q i.t⟩
section
variable {P : Program} {w : World} {K : PySem.W.Frag} {mg : Str → Option Value} {base : Heap}
theorem O_getitem (V : Ev P K mg) (A : List RF) (k : Nat) (hk : k < A.length) : MetT P w K mg base 1 (He.ga K "Operator") "__getitem__" [vO K A, vI (k : Int)] [] (vF K (A.getD k 0)) := by
  obtain ⟨fd, F⟩ := V.W.fd_O_getitem
  refine mk_met V.W.cl_O V.W.me_O_getitem (fn_V F sc_O_getitem rfl fun cdv A' outer s H E Q hr q => ?_) (b2 F)
  refine s_ifR (k := true) (t_eq (t_cmp (e_nm (P := vI (k : Int)) 1) (e_blt (c_len rfl) rfl V.W.fr_len PySem.boot_len (a_cons (e_sqT (e_co V rfl (e_nm 0))) a_nil)) o_lt) (decide_eq_true (by rw [vFs_len]; omega))) (fun _ => ?_) fun z => absurd z (by decide)
  exact s_retV (e_ix (i := k) (e_sqT (e_co V rfl (e_nm 0))) (e_nm (P := vI (k : Int)) 1) (vFs_get hk)) rfl q
theorem O_after (V : Ev P K mg) (A : List RF) (f : RF) (h : OkMu A (trimF [f])) (hA : A.length ≤ 1000) : MetT P w K mg base 60 (He.ga K "Operator") "after" [vO K A, vF K f] [] (vO K (trimF (muF A (trimF [f])))) := by
  obtain ⟨fd, F⟩ := V.W.fd_O_after
  refine mk_met V.W.cl_O V.W.me_O_after (fn_V F sc_O_after rfl fun cdv A' outer s H E Q hr q => ?_) (b2 F)
  exact s_retV (e_bin (e_nm 0) (e_call (of_function_c V f) hr (by omega) rfl (a_cons (e_nm 1) a_nil)) (o_own (op := .Mult) (O_mul V A (trimF [f]) h hA (Nat.le_trans (trimF_len _) (show (1 : Nat) ≤ 1000 by decide))) V.W.m.sO hr (by omega))) rfl q
theorem O_divide (V : Ev P K mg) (A M Qf Rf : List RF) (n : Nat) (hM : M ≠ []) (hM0 : leadF M ≠ 0) (hMl : M.length ≤ 1000) (h : DvRun M Qf Rf n [] A) : MetT P w K mg base 60 (He.ga K "Operator") "divide" [vO K A, vO K M] [] (vTu [vO K Qf, vO K Rf]) := by
  obtain ⟨fd, F⟩ := V.W.fd_O_divide
  have nd := sc_O_divide.nd
  have hMp : 0 < M.length := List.length_pos_iff.mpr hM
  refine mk_met V.W.cl_O V.W.me_O_divide (fn_V F sc_O_divide rfl fun cdv A' outer s H E Q hr q' => ?_) (b2 F)
  refine s_ifR (k := false) (t_val (e_eq (e_mth0 (ks := ["coefficients"]) (O_is_zero V M) rfl (by decide) hr (by omega) (e_nm 1)) (by rw [decide_eq_false hM]))) (fun z => absurd z Bool.false_ne_true) fun _ => ?_
  refine s_asg (P := vO K []) 2 (e_mk (O_mk V []) hr (by omega) rfl (a_cons (e_sqT (e_tup a_nil (show (0 : Nat) ≤ 100 by decide))) a_nil)) ?_ nd
  refine s_asg 3 (e_nm (P := vO K A) 0) ?_ nd
  refine s_while (I := Nat × List RF × List RF) (fun i => DvRun M Qf Rf i.1 i.2.1 i.2.2) (fun i => [some (vO K A), some (vO K M), some (vO K i.2.1), some (vO K i.2.2), none]) (fun _ => []) (fun i => i.1) (fun i => decide (((M.length : Nat) : Int) - 1 ≤ ((i.2.2.length : Nat) : Int) - 1)) (n, [], A) h ⟨rfl, rfl, rfl, rfl, trivial⟩ rfl (fun i hi => ?_) (fun Hb i sm hi hk => ?_) (fun Hb i sm hi hk => ?_) .never
  · exact t_cmp (e_mth0 (ks := ["coefficients"]) (O_order V i.2.2) rfl (by decide) hr (by omega) (e_nm 3)) (e_mth0 (ks := ["coefficients"]) (O_order V M) rfl (by decide) hr (by omega) (e_nm 1)) o_ge
  · obtain ⟨n, Q, R⟩ := i
    have hle := of_decide_eq_true hk
    cases n with
    | zero =>
      obtain ⟨h1, _, _⟩ : R.length < M.length ∧ Q = Qf ∧ R = Rf := hi
      have hle : ((M.length : Nat) : Int) - 1 ≤ ((R.length : Nat) : Int) - 1 := hle
      omega
    | succ n =>
      obtain ⟨o, hn⟩ : DvOk M Q R ∧ DvRun M Qf Rf n (dvQ M Q R) (dvR M R) := hi
      have hR : R ≠ [] := fun z => by
        have h0 : M.length ≤ 0 := by
          have := o.le
          rw [z] at this
          exact this
        omega
      have olr := o.lr
      have ole := o.le
      have tl : (dvT M R).length ≤ 1000 := Nat.le_trans (trimF_len _) (by rw [monoF_len]; omega)
      refine s_asg 4 (P := vO K (dvT M R)) (e_call (monomial_c V (leadF R / leadF M) (R.length - M.length) (by omega)) hr (by omega) rfl (a_cons (e_bin (e_mth0 (ks := ["coefficients"]) (O_leading V R hR) rfl (by decide) hr (by omega) (e_nm 3)) (e_mth0 (ks := ["coefficients"]) (O_leading V M hM) rfl (by decide) hr (by omega) (e_nm 1)) (o_own (op := .FloorDiv) (F_divC V o.ld hM0) V.W.m.sF hr (by omega))) (a_cons (e_eq (e_bin (e_mth0 (ks := ["coefficients"]) (O_order V R) rfl (by decide) hr (by omega) (e_nm 3)) (e_mth0 (ks := ["coefficients"]) (O_order V M) rfl (by decide) hr (by omega) (e_nm 1)) o_sub) (show vI _ = vI _ by congr 2; omega)) a_nil))) ?_ nd
      refine s_asg 2 (e_bin (e_nm (P := vO K Q) 2) (e_nm 4) (o_own (op := .Add) (O_add V Q (dvT M R) o.add (by have := o.lq; omega) tl) V.W.m.sO hr (by omega))) ?_ nd
      refine s_asg 3 (e_bin (e_nm (P := vO K R) 3) (e_bin (e_nm 4) (e_nm 1) (o_own (op := .Mult) (O_mul V (dvT M R) M o.mul tl hMl) V.W.m.sO hr (by omega))) (o_own (op := .Sub) (O_sub V R _ (fun k _ => o.neg k) o.sub (by omega) o.ml) V.W.m.sO hr (by omega))) ?_ nd
      exact nx_ok (n, dvQ M Q R, dvR M R) ⟨hn, Nat.lt_succ_self _⟩ rfl ⟨rfl, rfl, rfl, rfl, trivial⟩ rfl
  · obtain ⟨n, Q, R⟩ := i
    have hle := of_decide_eq_false hk
    cases n with
    | zero =>
      obtain ⟨h1, e1, e2⟩ : R.length < M.length ∧ Q = Qf ∧ R = Rf := hi
      subst e1 e2
      exact s_retV (R := vTu [vO K Q, vO K R]) (e_tup (a_cons (e_nm 2) (a_cons (e_nm 3) a_nil)) (show (2 : Nat) ≤ 100 by decide)) rfl fun v H' s' pv => q' v H' (sm.trans s') pv
    | succ n =>
      obtain ⟨o, hn⟩ : DvOk M Q R ∧ DvRun M Qf Rf n (dvQ M Q R) (dvR M R) := hi
      have ole := o.le
      have hle : ¬ ((M.length : Nat) : Int) - 1 ≤ ((R.length : Nat) : Int) - 1 := hle
      omega
theorem O_moved (V : Ev P K mg) (A : List RF) (u : RF) (h : OkMv u A) (hA : A.length ≤ 1000) : MetT P w K mg base 58 (He.ga K "Operator") "moved" [vO K A, vF K u] [] (vO K (mvF u A)) := by
  obtain ⟨fd, F⟩ := V.W.fd_O_moved
  have nd := sc_O_moved.nd
  refine mk_met V.W.cl_O V.W.me_O_moved (fn_V F sc_O_moved rfl fun cdv A' outer s H E Q hr q => ?_) (b2 F)
  refine s_asg 2 (e_lst a_nil (show (0 : Nat) ≤ 100 by decide)) ?_ nd
  refine s_asg 3 (P := vLs (vFs K [1])) (e_lst (a_cons (of_one V ⟨rfl, rfl, rfl, rfl, rfl⟩ hr (by omega) (by rfl) (by rfl)) a_nil) (show (1 : Nat) ≤ 100 by decide)) ?_ nd
  refine s_for (I := Unit) (pi_seq (e_sqT (e_co V rfl (e_nm 0)))) (pg_name (i := 4) nd rfl (Or.inl rfl)) (fun i G => G.set 4 (some (atP (vFs K A) i))) (go_name 4) (fun _ _ => True) (fun k _ => [some (vO K A), some (vF K u), some (vLs (vFs K (mvK u A k).1)), some (vLs (vFs K (mvK u A k).2)), none]) (fun _ _ => []) () trivial ⟨rfl, rfl, rfl, rfl, trivial⟩ rfl (fun Hb k _ sm hk _ => ?_) (fun Hb _ sm _ => ?_) .never
  · rw [vFs_at hk]
    rw [vFs_len] at hk
    have o := h k hk
    have e : mvK u A (k + 1) = mvS u (mvK u A k) (A.getD k 0) := fold_take _ _ _ _ _ hk
    have l2 := o.l2
    have la := adF_len (mvK u A k).2
    refine s_asg 2 (e_call (add_rows_c V (mvK u A k).1 (scF (A.getD k 0) (mvK u A k).2) o.add o.l1 (by rw [scF_len]; omega)) hr (by omega) rfl (a_cons (e_sqL (e_nm 2)) (a_cons (e_sqL (e_call (scale_row_c V _ _ o.sc (by omega)) hr (by omega) rfl (a_cons (e_nm (P := vF K (A.getD k 0)) 4) (a_cons (e_sqL (e_nm 3)) a_nil)))) a_nil))) ?_ nd
    refine s_asg 3 (e_call (add_rows_c V (adF (mvK u A k).2) (scF u (mvK u A k).2) o.addu (by omega) (by rw [scF_len]; omega)) hr (by omega) rfl (a_cons (e_sqL (e_call (advance_row_c V _ o.ad (by omega)) hr (by omega) rfl (a_cons (e_sqL (e_nm 3)) a_nil))) (a_cons (e_sqL (e_call (scale_row_c V _ _ o.scu (by omega)) hr (by omega) rfl (a_cons (e_nm (P := vF K u) 1) (a_cons (e_sqL (e_nm 3)) a_nil)))) a_nil))) ?_ nd
    refine nx_ok () trivial rfl ?_ rfl
    rw [e]
    exact ⟨rfl, rfl, rfl, rfl, trivial⟩
  · refine s_retV (e_eq (e_mk (O_mk V (mvK u A (vFs K A).length).1) hr (by omega) rfl (a_cons (e_sqL (e_nm 2)) a_nil)) ?_) rfl fun v H' s' pv => q v H' (sm.trans s') pv
    rw [vFs_len]
    unfold mvK mvF
    rw [List.take_length]
theorem euclid_c (V : Ev P K mg) (A B : List RF) (f : EuS) (n : Nat) (h : EuRun f n ⟨A, B, trimF [1], [], [], trimF [1]⟩) : CalT P w K mg base 62 "euclid" [vO K A, vO K B] [] (vTu [vO K f.a, vO K f.u, vO K f.v, vO K f.s, vO K f.t]) := by
  obtain ⟨fd, F⟩ := V.W.fd_euclid
  have nd := sc_euclid.nd
  refine mk_cal (fn_V F sc_euclid rfl fun cdv A' outer s H E Q hr q' => ?_) V.W.gl_euclid F.kp (b2 F)
  refine s_par 2 3 (Pa := vO K (trimF [1])) (Pb := vO K []) (e_call (of_function_c V 1) hr (by omega) rfl (a_cons (of_one V ⟨rfl, rfl, rfl, rfl, rfl⟩ hr (by omega) (by rfl) (by rfl)) a_nil)) (e_mk (O_mk V []) hr (by omega) rfl (a_cons (e_sqT (e_tup a_nil (show (0 : Nat) ≤ 100 by decide))) a_nil)) ?_ nd
  refine s_par 4 5 (e_nm 3) (e_nm 2) ?_ nd
  refine s_while (I := Nat × EuS) (fun i => EuRun f i.1 i.2) (fun i => [some (vO K i.2.a), some (vO K i.2.b), some (vO K i.2.u), some (vO K i.2.v), some (vO K i.2.s), some (vO K i.2.t), none, none]) (fun _ => []) (fun i => i.1) (fun i => !decide (i.2.b = [])) (n, ⟨A, B, trimF [1], [], [], trimF [1]⟩) h ⟨rfl, rfl, rfl, rfl, rfl, rfl, trivial⟩ rfl (fun i hi => ?_) (fun Hb i sm hi hk => ?_) (fun Hb i sm hi hk => ?_) .never
  · exact t_not (t_val (e_mth0 (ks := ["coefficients"]) (O_is_zero V i.2.b) rfl (by decide) hr (by omega) (e_nm 1)))
  · obtain ⟨n, i⟩ := i
    cases n with
    | zero =>
      obtain ⟨h1, _⟩ : i.b = [] ∧ i = f := hi
      have hk : (!decide (i.b = [])) = true := hk
      rw [h1] at hk
      exact absurd hk (by simp)
    | succ n =>
      obtain ⟨hb, hb0, hbl, k, q, r, hd, o1, o2, hn⟩ : i.b ≠ [] ∧ leadF i.b ≠ 0 ∧ i.b.length ≤ 1000 ∧ ∃ (k : Nat) (q r : List RF), DvRun i.b q r k [] i.a ∧ SubOk i.u q i.s ∧ SubOk i.v q i.t ∧ EuRun f n ⟨i.b, r, i.s, i.t, subQ i.u q i.s, subQ i.v q i.t⟩ := hi
      refine s_unp [6, 7] (Ps := [vO K q, vO K r]) (e_mth (ks := ["coefficients"]) (O_divide V i.a i.b q r k hb hb0 hbl hd) rfl (by decide) hr (by omega) (e_nm 0) (a_cons (e_nm 1) a_nil)) (pg_tup rfl (pgs_cons (pg_name (i := 6) nd rfl (Or.inl rfl)) (pgs_cons (pg_name (i := 7) nd rfl (Or.inl rfl)) pgs_nil))) rfl ?_
      refine s_par 0 1 (e_nm (P := vO K i.b) 1) (e_nm (P := vO K r) 7) ?_ nd
      refine s_par 2 4 (Pb := vO K (subQ i.u q i.s)) (e_nm (P := vO K i.s) 4) (e_bin (e_nm (P := vO K i.u) 2) (e_bin (e_nm (P := vO K q) 6) (e_nm (P := vO K i.s) 4) (o_own (op := .Mult) (O_mul V q i.s o1.mul o1.l1 o1.l2) V.W.m.sO hr (by omega))) (o_own (op := .Sub) (O_sub V i.u _ (fun k _ => o1.neg k) o1.sub o1.l3 o1.l4) V.W.m.sO hr (by omega))) ?_ nd
      refine s_par 3 5 (Pb := vO K (subQ i.v q i.t)) (e_nm (P := vO K i.t) 5) (e_bin (e_nm (P := vO K i.v) 3) (e_bin (e_nm (P := vO K q) 6) (e_nm (P := vO K i.t) 5) (o_own (op := .Mult) (O_mul V q i.t o2.mul o2.l1 o2.l2) V.W.m.sO hr (by omega))) (o_own (op := .Sub) (O_sub V i.v _ (fun k _ => o2.neg k) o2.sub o2.l3 o2.l4) V.W.m.sO hr (by omega))) ?_ nd
      exact nx_ok (n, ⟨i.b, r, i.s, i.t, subQ i.u q i.s, subQ i.v q i.t⟩) ⟨hn, Nat.lt_succ_self _⟩ rfl ⟨rfl, rfl, rfl, rfl, rfl, rfl, trivial⟩ rfl
  · obtain ⟨n, i⟩ := i
    cases n with
    | zero =>
      obtain ⟨h1, e⟩ : i.b = [] ∧ i = f := hi
      subst e
      exact s_retV (R := vTu [vO K i.a, vO K i.u, vO K i.v, vO K i.s, vO K i.t]) (e_tup (a_cons (e_nm 0) (a_cons (e_nm 2) (a_cons (e_nm 3) (a_cons (e_nm 4) (a_cons (e_nm 5) a_nil))))) (show (5 : Nat) ≤ 100 by decide)) rfl fun v H' s' pv => q' v H' (sm.trans s') pv
    | succ n =>
      obtain ⟨hb, _⟩ : i.b ≠ [] ∧ leadF i.b ≠ 0 ∧ i.b.length ≤ 1000 ∧ ∃ (k : Nat) (q r : List RF), DvRun i.b q r k [] i.a ∧ SubOk i.u q i.s ∧ SubOk i.v q i.t ∧ EuRun f n ⟨i.b, r, i.s, i.t, subQ i.u q i.s, subQ i.v q i.t⟩ := hi
      have hk : (!decide (i.b = [])) = false := hk
      rw [decide_eq_false hb] at hk
      exact absurd hk (by decide)
/-- what left_multiple needs beyond euclid -/
structure LmOk (A s t : List RF) : Prop where
  mul : OkMu s A
  ls : s.length ≤ 1000
  la : A.length ≤ 1000
  lt : t.length ≤ 1000
  ne : trimF (muF s A) ≠ []
  l0 : leadF (trimF (muF s A)) ≠ 0
  lc : Co 50 (leadF (trimF (muF s A)))
  lm : (trimF (muF s A)).length ≤ 1000
  s1 : OkSc (leadF (trimF (muF s A)))⁻¹ (trimF (muF s A))
  s2 : OkSc (leadF (trimF (muF s A)))⁻¹ s
  s3 : OkSc (leadF (trimF (muF s A)))⁻¹ t
  s4 : ∀ k, Co 50 ((trimF (scF (leadF (trimF (muF s A)))⁻¹ t)).getD k 0)
noncomputable def lmF (s A : List RF) : List RF := trimF (scF (leadF (trimF (muF s A)))⁻¹ (trimF (muF s A)))
theorem left_multiple_c (V : Ev P K mg) (A B : List RF) (hA : A ≠ []) (hB : B ≠ []) (f : EuS) (n : Nat) (h : EuRun f n ⟨A, B, trimF [1], [], [], trimF [1]⟩) (o : LmOk A f.s f.t) : CalT P w K mg base 64 "left_multiple" [vO K A, vO K B] [] (vTu [vO K (lmF f.s A), vO K (trimF (scF (leadF (trimF (muF f.s A)))⁻¹ f.s)), vO K (trimF (ngF (trimF (scF (leadF (trimF (muF f.s A)))⁻¹ f.t))))]) := by
  obtain ⟨fd, F⟩ := V.W.fd_left_multiple
  have nd := sc_left_multiple.nd
  refine mk_cal (fn_V F sc_left_multiple rfl fun cdv A' outer s H E Q hr q' => ?_) V.W.gl_left_multiple F.kp (b2 F)
  refine s_ifR (k := false) (t_w (w_or (j := false) (k := false) (t_val (e_eq (e_mth0 (ks := ["coefficients"]) (O_is_zero V A) rfl (by decide) hr (by omega) (e_nm 0)) (by rw [decide_eq_false hA]))) fun _ => w_or1 (t_val (e_eq (e_mth0 (ks := ["coefficients"]) (O_is_zero V B) rfl (by decide) hr (by omega) (e_nm 1)) (by rw [decide_eq_false hB]))))) (fun z => absurd z Bool.false_ne_true) fun _ => ?_
  refine s_unp [2, 2, 2, 3, 4] (Ps := [vO K f.a, vO K f.u, vO K f.v, vO K f.s, vO K f.t]) (e_call (euclid_c V A B f n h) hr (by omega) rfl (a_cons (e_nm 0) (a_cons (e_nm 1) a_nil))) (pg_tup rfl (pgs_cons (pg_name (i := 2) nd rfl (Or.inl rfl)) (pgs_cons (pg_name (i := 2) nd rfl (Or.inl rfl)) (pgs_cons (pg_name (i := 2) nd rfl (Or.inl rfl)) (pgs_cons (pg_name (i := 3) nd rfl (Or.inl rfl)) (pgs_cons (pg_name (i := 4) nd rfl (Or.inl rfl)) pgs_nil)))))) rfl ?_
  refine s_asg 5 (P := vO K (trimF (muF f.s A))) (e_bin (e_nm (P := vO K f.s) 3) (e_nm (P := vO K A) 0) (o_own (op := .Mult) (O_mul V f.s A o.mul o.ls o.la) V.W.m.sO hr (by omega))) ?_ nd
  refine s_asg 6 (P := vF K (leadF (trimF (muF f.s A)))⁻¹) (e_mth0 (ks := ["num", "den"]) (F_invC V o.lc o.l0) rfl (by decide) hr (by omega) (e_mth0 (ks := ["coefficients"]) (O_leading V _ o.ne) rfl (by decide) hr (by omega) (e_nm (P := vO K (trimF (muF f.s A))) 5))) ?_ nd
  refine s_retV (R := vTu [vO K (lmF f.s A), vO K (trimF (scF (leadF (trimF (muF f.s A)))⁻¹ f.s)), vO K (trimF (ngF (trimF (scF (leadF (trimF (muF f.s A)))⁻¹ f.t))))]) (e_tup (a_cons ?_ (a_cons ?_ (a_cons ?_ a_nil))) (show (3 : Nat) ≤ 100 by decide)) rfl q'
  · exact e_mth (ks := ["coefficients"]) (O_scaled V _ _ o.s1 o.lm) rfl (by decide) hr (by omega) (e_nm 5) (a_cons (e_nm 6) a_nil)
  · exact e_mth (ks := ["coefficients"]) (O_scaled V _ _ o.s2 o.ls) rfl (by decide) hr (by omega) (e_nm (P := vO K f.s) 3) (a_cons (e_nm 6) a_nil)
  · exact e_un (e_mth (ks := ["coefficients"]) (O_scaled V _ _ o.s3 o.lt) rfl (by decide) hr (by omega) (e_nm (P := vO K f.t) 4) (a_cons (e_nm 6) a_nil)) (u_own (O_neg V _ (fun k _ => o.s4 k) (Nat.le_trans (trimF_len _) (by rw [scF_len]; exact o.lt))) hr (by omega))
theorem quotient_c (V : Ev P K mg) (A M Qf : List RF) (n : Nat) (hM : M ≠ []) (hM0 : leadF M ≠ 0) (hMl : M.length ≤ 1000) (h : DvRun M Qf [] n [] A) : CalT P w K mg base 62 "quotient" [vO K A, vO K M] [] (vO K Qf) := by
  obtain ⟨fd, F⟩ := V.W.fd_quotient
  have nd := sc_quotient.nd
  refine mk_cal (fn_V F sc_quotient rfl fun cdv A' outer s H E Q hr q' => ?_) V.W.gl_quotient F.kp (b2 F)
  refine s_ifR (k := false) (t_val (e_eq (e_mth0 (ks := ["coefficients"]) (O_is_zero V M) rfl (by decide) hr (by omega) (e_nm 1)) (by rw [decide_eq_false hM]))) (fun z => absurd z Bool.false_ne_true) fun _ => ?_
  refine s_unp [2, 3] (Ps := [vO K Qf, vO K []]) (e_mth (ks := ["coefficients"]) (O_divide V A M Qf [] n hM hM0 hMl h) rfl (by decide) hr (by omega) (e_nm 0) (a_cons (e_nm 1) a_nil)) (pg_tup rfl (pgs_cons (pg_name (i := 2) nd rfl (Or.inl rfl)) (pgs_cons (pg_name (i := 3) nd rfl (Or.inl rfl)) pgs_nil))) rfl ?_
  refine s_ifR (k := true) (t_val (e_eq (e_mth0 (ks := ["coefficients"]) (O_is_zero V []) rfl (by decide) hr (by omega) (e_nm (P := vO K []) 3)) (by rw [decide_eq_true rfl]))) (fun _ => ?_) fun z => absurd z (by decide)
  exact s_retV (e_nm (P := vO K Qf) 2) rfl q'
end
end K31
set_option Elab.async false
set_option linter.all false
set_option maxRecDepth 100000
set_option maxHeartbeats 2000000
/-! T9: list(enumerate(list)). -/
namespace K31
open PySem PySem.Spec L2
/-- enumerate's object e over the list's iterator it, i items gone; S the list that is being filled -/
def EnuSt (h : Heap) (e it S : Addr) (i : Nat) : Prop :=
  (i = 0 ∧ ∃ old, IsEnum h e it ((i : Nat) : Int) old) ∨ ∃ old T f oT, PySem.IsEnumHeld h e it ((i : Nat) : Int) old T f ∧ h.get? T = some oT ∧ T ≠ e ∧ T ≠ it ∧ T ≠ S
structure EnuG (items : Array Value) (lo : Addr) (h : Heap) (as : List Addr) : Prop where
  rise : as.Pairwise (· < ·)
  above : ∀ a ∈ as, lo < a
  pairs : ∀ (j : Nat) (a : Addr), as[j]? = some a → ∃ t x, items[j]? = some x ∧ h.get? a = some { cls := .type "tuple", data := .seq #[.int (j : Int) t, x] }
theorem EnuG.there {items : Array Value} {lo : Addr} {h : Heap} {as : List Addr} (g : EnuG items lo h as) {a : Addr} (ha : a ∈ as) : a < h.objs.size := by
  obtain ⟨j, hj⟩ := List.mem_iff_getElem?.mp ha
  obtain ⟨_, _, _, e⟩ := g.pairs j a hj
  exact Heap.lt_size e
section
variable {prog : Program} {w : World} {A : Around} {s : Shared} {R : Result → Shared → Prop} {items : Array Value}
theorem enu_item {E : Value → Shared → Prop} {e it l S : Addr} {i : Nat} {x : Value} {Q : Option Value → Shared → Prop} (hst : EnuSt s.heap e it S i) (hit : s.heap.IsListIter it l i) (hl : s.heap.IsList l items) (hne : e ≠ it) (hS : S < s.heap.objs.size) (hx : items[i]? = some x)
    (hQ : ∀ h' tk, EnuSt h' e it S (i + 1) → h'.IsListIter it l (i + 1) → h'.get? s.heap.objs.size = some { cls := .type "tuple", data := .seq #[.int (i : Int) s.toks, x] } → h'.objs.size = s.heap.objs.size + 1 →
      (∀ b o, b ≠ e → b ≠ it → s.heap.get? b = some o → h'.get? b = some o) → Q (some (.ref s.heap.objs.size)) { s with heap := h', toks := tk }) :
    wpAny (model prog w) A (pyNext (.ref e)) Q E s := by
  have e1 : ((i + 1 : Nat) : Int) = (i : Int) + 1 := by omega
  have hil : it < s.heap.objs.size := by obtain ⟨_, q, _⟩ := hit; exact Heap.lt_size q
  rcases hst with ⟨rfl, old, he⟩ | ⟨old, T, f, oT, he, hT, hTe, hTi, hTS⟩
  · have hel : e < s.heap.objs.size := Heap.lt_size he
    refine wpAny_pyNext_enum_item he hit hl hx hne fun h' ho hit' hT hsz hk => ?_
    refine hQ h' _ (.inr ⟨x, s.heap.objs.size, false, _, ?_, hT, Nat.ne_of_gt hel, Nat.ne_of_gt hil, Nat.ne_of_gt hS⟩) hit' hT hsz hk
    rw [e1]; exact ho
  · refine wpAny_pyNext_enum_item_held he hT hTe hTi hit hl hx hne fun h' ho hit' hT' hsz hk => ?_
    refine hQ h' _ (.inr ⟨old, T, true, oT, ?_, hk T oT hTe hTi hT, hTe, hTi, hTS⟩) hit' hT' hsz hk
    rw [e1]; exact ho
theorem enu_done {E : Value → Shared → Prop} {e it l S : Addr} {i : Nat} {Q : Option Value → Shared → Prop} (hh : A.handled = none) (hst : EnuSt s.heap e it S i) (hit : s.heap.IsListIter it l i) (hl : s.heap.IsList l items) (hx : items[i]? = none)
    (hQ : ∀ h', Heap.ExtBut it s.heap h' → Q none { s with heap := h' }) : wpAny (model prog w) A (pyNext (.ref e)) Q E s := by
  rcases hst with ⟨rfl, old, he⟩ | ⟨old, T, f, oT, he, hT, hTe, hTi, hTS⟩
  · exact wpAny_pyNext_enum_end hh he hit hl hx hQ
  · exact wpAny_pyNext_enum_end_held hh he hit hl hx hQ
theorem EnuSt.keep {h h' : Heap} {e it S : Addr} {i : Nat} (x : EnuSt h e it S i) (hk : ∀ b o, b ≠ S → h.get? b = some o → h'.get? b = some o) (he : e ≠ S) : EnuSt h' e it S i := by
  rcases x with ⟨i0, old, y⟩ | ⟨old, T, f, oT, y, hT, h1, h2, h3⟩
  · exact .inl ⟨i0, old, hk _ _ he y⟩
  · exact .inr ⟨old, T, f, oT, hk _ _ he y, hk _ _ h3 hT, h1, h2, h3⟩
theorem enu_loop {S e it l : Addr} (hh : A.handled = none) (hne : e ≠ it) (hSe : S ≠ e) (hSi : S ≠ it) (hSl : l ≠ S) (hle : l ≠ e) (hli : l ≠ it) (lo : Addr) (hlo : S ≤ lo) (hlo1 : e ≤ lo) (hlo2 : it ≤ lo) (hn : items.size ≤ sizeLine) (res : Value) {h₁ : Heap}
    (hR : ∀ h' tk acc c as, (∀ b o, b ≠ S → b ≠ e → b ≠ it → h₁.get? b = some o → h'.get? b = some o) → h'.get? S = some { cls := .type "list", dict := none, data := .seq acc c, slots := #[] } → as.length = items.size → EnuG items lo h' as →
      acc.toList = as.map Value.ref → R (.ok (.ret res)) { s with heap := h', toks := tk }) :
    ∀ (k i : Nat) (h : Heap) (tk c : Nat) (acc : Array Value) (as : List Addr), items.size - i = k → i ≤ items.size → EnuSt h e it S i → h.IsListIter it l i → h.IsList l items → (∀ b o, b ≠ S → b ≠ e → b ≠ it → h₁.get? b = some o → h.get? b = some o) →
      h.get? S = some { cls := .type "list", dict := none, data := .seq acc c, slots := #[] } → acc.toList = as.map Value.ref → as.length = i → EnuG items lo h as → lo < h.objs.size →
      codeAny (model prog w) A (.builtin "list.extend.loop" ⟨[.ref S, .ref e, res], []⟩) R { s with heap := h, toks := tk } := by
  intro k
  induction k with
  | zero =>
    intro i h tk c acc as hk hi hst hit hl hkeep hS hacc hal hG hIs
    refine codeAny_builtin PySem.F.entry_extend_loop ?_
    rw [Around.under_plainId PySem.F.plain_extend_loop _]
    show wpAny _ A.in1 (pyNext (.ref e) >>= _) _ _ _
    refine wpAny_bind (enu_done (s := { s with heap := h, toks := tk }) (A := A.in1) hh hst hit hl (by simp; omega) fun h' he => ?_)
    refine wpAny_pure (hR h' tk acc c as (fun b o h1 h2 h3 q => he b o h3 (hkeep b o h1 h2 h3 q)) (he S _ hSi hS) (by omega) ⟨hG.rise, hG.above, fun j a hj => ?_⟩ hacc)
    obtain ⟨t, x, e1, e2⟩ := hG.pairs j a hj
    have ha := hG.above a (List.mem_of_getElem? hj)
    exact ⟨t, x, e1, he a _ (Nat.ne_of_gt (Nat.lt_of_le_of_lt hlo2 ha)) e2⟩
  | succ k ih =>
    intro i h tk c acc as hk hi hst hit hl hkeep hS hacc hal hG hIs
    have hlt : i < items.size := by omega
    have hx : items[i]? = some items[i] := by simp [hlt]
    have hsz : acc.size = i := by rw [← Array.length_toList, hacc, List.length_map, hal]
    refine codeAny_builtin PySem.F.entry_extend_loop ?_
    rw [Around.under_plainId PySem.F.plain_extend_loop _]
    show wpAny _ A.in1 (pyNext (.ref e) >>= _) _ _ _
    refine wpAny_bind (enu_item (s := { s with heap := h, toks := tk }) (S := S) hst hit hl hne (Heap.lt_size hS) hx fun h' tk' hst' hit' ht hz hkp => ?_)
    dsimp only at ht hz hkp ⊢
    have hS' := hkp S _ hSe hSi hS
    have up : ∀ b o, b ≠ S → h'.get? b = some o → (h'.update S (Obj.mapSeq (·.push (Value.ref h.objs.size)))).get? b = some o := fun b o hb q => (Heap.get?_update_other _ _ (Ne.symm hb)).trans q
    have hSlt : S < h.objs.size := Heap.lt_size hS
    show wpAny _ A.in1 (updateSeq S (·.push (Value.ref h.objs.size)) >>= _) _ _ _
    refine wpAny_bind ?_
    refine wpAny_updateSeq hS' rfl (wpAny_pure ⟨plainId_quiet PySem.F.plain_extend_loop _, ih (i + 1) _ tk' _ (acc.push (Value.ref h.objs.size)) (as ++ [h.objs.size]) (by omega) hlt (hst'.keep up (Ne.symm hSe)) (hit'.at fun o q => up it o (Ne.symm hSi) q) (hl.at fun o q => up l o hSl (hkp l o hle hli q))
      (fun b o h1 h2 h3 q => up b o h1 (hkp b o h2 h3 (hkeep b o h1 h2 h3 q))) (Heap.get?_update_self _ hS' rfl) (by rw [Array.toList_push, hacc, List.map_append]; rfl) (by rw [List.length_append, hal]; rfl) ⟨?_, ?_, ?_⟩ ?_⟩) (by rw [hsz]; omega) (by show (acc.push (Value.ref h.objs.size)).size ≤ sizeLine + 1; rw [Array.size_push, hsz]; omega)
    · refine List.pairwise_append.mpr ⟨hG.rise, List.pairwise_singleton _ _, fun a ha b hb => ?_⟩
      rw [List.mem_singleton.mp hb]
      exact hG.there ha
    · intro a ha
      rcases List.mem_append.mp ha with ha | ha
      · exact hG.above a ha
      · rw [List.mem_singleton.mp ha]; exact hIs
    · intro j b hj
      rcases Nat.lt_trichotomy j as.length with h1 | h1 | h1
      · rw [List.getElem?_append_left h1] at hj
        obtain ⟨t, x', e1, e3⟩ := hG.pairs j b hj
        have hb := hG.above b (List.mem_of_getElem? hj)
        exact ⟨t, x', e1, up b _ (Nat.ne_of_gt (Nat.lt_of_le_of_lt hlo hb)) (hkp b _ (Nat.ne_of_gt (Nat.lt_of_le_of_lt hlo1 hb)) (Nat.ne_of_gt (Nat.lt_of_le_of_lt hlo2 hb)) e3)⟩
      · subst h1
        have hb : h.objs.size = b := by simpa using hj
        subst hb
        exact ⟨tk, items[i], by rw [hal]; exact hx, up _ _ (Nat.ne_of_gt hSlt) (by rw [hal]; exact ht)⟩
      · have hnone : (as ++ [h.objs.size])[j]? = none := List.getElem?_eq_none (by rw [List.length_append, List.length_singleton]; omega)
        rw [hnone] at hj; cases hj
    · have q : (h'.update S (Obj.mapSeq (·.push (Value.ref h.objs.size)))).get? h.objs.size = _ := up _ _ (Nat.ne_of_gt hSlt) ht
      exact Nat.lt_trans hIs (Heap.lt_size q)
theorem enu_len : typeLookup (.type "enumerate") "__len__" = pure none := am_miss_of_fast (by decide +kernel)
theorem enu_lh : typeLookup (.type "enumerate") "__length_hint__" = pure none := am_miss_of_fast (by decide +kernel)
theorem enu_hint {E : Value → Shared → Prop} {r : Addr} (hT : s.TypeIs (.ref r) "enumerate") {Q : Bool → Shared → Prop} (h : Q true s) : wpAny (model prog w) A (Builtin.List.listLengthHint (.ref r)) Q E s := by
  unfold Builtin.List.listLengthHint
  refine wpAny_bind (wpAny_specialOf hT enu_len ?_)
  wp_delta
  refine wpAny_ite_split (fun hab => absurd hab (by decide)) (fun _ => ?_)
  refine wpAny_ite_split (fun hab => absurd hab (by decide)) (fun _ => ?_)
  refine wpAny_bind (wpAny_specialOf hT enu_lh ?_)
  exact wpAny_pure h

theorem enu_extend {R : Result → Shared → Prop} {S e it l : Addr} (hh : A.handled = none) (he : IsEnum s.heap e it 0 .none) (hit : s.heap.IsListIter it l 0) (hl : s.heap.IsList l items) (hne : e ≠ it) (hSe : S ≠ e) (hSi : S ≠ it) (hSl : l ≠ S) (hle : l ≠ e) (hli : l ≠ it) (hlo1 : e ≤ S) (hlo2 : it ≤ S)
    (res : Value) (c₀ : Nat) (hS : s.heap.get? S = some { cls := .type "list", data := .seq #[] c₀ })
    (hR : ∀ h' tk acc c as, (∀ b o, b ≠ S → b ≠ e → b ≠ it → s.heap.get? b = some o → h'.get? b = some o) → h'.get? S = some { cls := .type "list", dict := none, data := .seq acc c, slots := #[] } → as.length = items.size → EnuG items S h' as →
      acc.toList = as.map Value.ref → R (.ok (.ret res)) { s with heap := h', toks := tk }) (hn : items.size ≤ sizeLine) :
    wpAny (model prog w) A.in1 (Builtin.List.listExtendWith (.ref S) (.ref e) res)
      (fun fin s' => match fin with | .done f => R (.ok f) s' | .again c' => c'.quiet = true ∧ codeAny (model prog w) A c' R s') (fun e s' => R (.error e) s') s := by
  have key : ∀ (h : Heap) (c₁ tk : Nat), (∀ b o, b ≠ S → s.heap.get? b = some o → h.get? b = some o) →
      h.get? S = some { cls := .type "list", data := .seq #[] c₁ } → codeAny (model prog w) A (.builtin "list.extend.loop" ⟨[.ref S, .ref e, res], []⟩) R { s with heap := h, toks := tk } := by
    intro h c₁ tk hk hS₁
    have hlt : S < h.objs.size := Heap.lt_size hS₁
    exact enu_loop (s := s) (h₁ := s.heap) hh hne hSe hSi hSl hle hli S (Nat.le_refl _) hlo1 hlo2 hn res hR
      items.size 0 h tk c₁ #[] [] (Nat.sub_zero _) (Nat.zero_le _) (.inl ⟨rfl, _, hk e _ (Ne.symm hSe) he⟩) (hit.at fun o q => hk it o (Ne.symm hSi) q) (hl.at fun o q => hk l o hSl q) (fun b o h1 h2 h3 q => hk b o h1 q) hS₁ rfl rfl
      ⟨List.Pairwise.nil, (fun _ ha => nomatch ha), (fun j a hj => by simp at hj)⟩ hlt
  unfold Builtin.List.listExtendWith
  have hT : s.TypeIs (.ref e) "enumerate" := ⟨_, he, rfl⟩
  refine wpAny_bind (wpAny_typeOf (T := "enumerate") hT ?_)
  have h1 : Builtin.List.listSameRef (.ref S) (.ref e) = false := by simp [Builtin.List.listSameRef, hSe]
  have h2 : (Value.type "enumerate" == Value.type "list") = false := by decide
  have h3 : (Value.type "enumerate" == Value.type "tuple") = false := by decide
  simp only [h1, h2, h3, Bool.or_false, Bool.false_eq_true, if_false]
  refine wpAny_bind (wpAny_pyIter_enum he ?_)
  refine wpAny_bind (wpAny_holding (enu_hint hT ?_))
  refine wpAny_ite_split (fun _ => ?_) (fun _ => wpAny_pure ⟨plainId_quiet PySem.F.plain_extend_loop _, key _ c₀ _ (fun b o _ q => q) hS⟩)
  refine wpAny_bind (wpAny_rule ?_)
  refine wpAny_bind ?_
  show wpAny _ _ (updateSeq S (·.push .none) >>= fun _ => updateSeq S (·.pop)) _ _ _
  refine wpAny_bind (wpAny_updateSeq hS rfl ?_)
  have hS₂ := Heap.get?_update_self (Obj.mapSeq (·.push Value.none)) hS rfl
  refine wpAny_updateSeq (hz := by seq_fits) hS₂ rfl ?_
  have hS₃ := Heap.get?_update_self (Obj.mapSeq (·.pop)) hS₂ rfl
  refine wpAny_pure ⟨plainId_quiet PySem.F.plain_extend_loop _, key _ _ _ (fun b o hb q => ?_) hS₃⟩
  exact (Heap.get?_update_other _ _ (Ne.symm hb)).trans ((Heap.get?_update_other _ _ (Ne.symm hb)).trans q)
theorem enu_init {R : Result → Shared → Prop} {S e it l : Addr} (hh : A.handled = none) (he : IsEnum s.heap e it 0 .none) (hit : s.heap.IsListIter it l 0) (hl : s.heap.IsList l items) (hne : e ≠ it) (hSe : S ≠ e) (hSi : S ≠ it) (hSl : l ≠ S) (hle : l ≠ e) (hli : l ≠ it) (hlo1 : e ≤ S) (hlo2 : it ≤ S)
    (hS : s.heap.get? S = some { cls := .type "list", data := .seq #[] })
    (hR : ∀ h' tk acc c as, (∀ b o, b ≠ S → b ≠ e → b ≠ it → s.heap.get? b = some o → h'.get? b = some o) → h'.get? S = some { cls := .type "list", dict := none, data := .seq acc c, slots := #[] } → as.length = items.size → EnuG items S h' as →
      acc.toList = as.map Value.ref → R (.ok (.ret .none)) { s with heap := h', toks := tk }) (hn : items.size ≤ sizeLine) :
    wpAny (model prog w) A.in1 (Builtin.«list.__init__» ⟨[.ref S, .ref e], []⟩)
      (fun fin s' => match fin with | .done f => R (.ok f) s' | .again c' => c'.quiet = true ∧ codeAny (model prog w) A c' R s') (fun e s' => R (.error e) s') s := by
  show wpAny _ _ (do let old ← Builtin.List.listItems (.ref S); Builtin.List.listUpdate (.ref S) (fun _ => #[]); letGo old.toList.reverse; Builtin.List.listExtendWith (.ref S) (.ref e) .none) _ _ s
  refine wpAny_bind ?_
  unfold Builtin.List.listItems
  refine wpAny_bind (wpAny_seqItems hS rfl (wpAny_pure ?_))
  show wpAny _ _ (updateSeq S (fun _ => #[]) >>= fun _ => letGo (#[] : Array Value).toList.reverse >>= fun _ => Builtin.List.listExtendWith (.ref S) (.ref e) .none) _ _ s
  refine wpAny_bind (wpAny_updateSeq hS rfl ?_)
  have hS₂ := Heap.get?_update_self (Obj.mapSeq (fun _ => (#[] : Array Value))) hS rfl
  have oth : ∀ b o, b ≠ S → s.heap.get? b = some o → (s.heap.update S (Obj.mapSeq (fun _ => (#[] : Array Value)))).get? b = some o :=
    fun b o hb q => (Heap.get?_update_other _ _ (Ne.symm hb)).trans q
  refine wpAny_bind (wpAny_letGo ?_)
  exact enu_extend hh (oth e _ (Ne.symm hSe) he) (hit.at fun o q => oth it o (Ne.symm hSi) q) (hl.at fun o q => oth l o hSl q) hne hSe hSi hSl hle hli hlo1 hlo2 .none _ hS₂
    (fun h' tk acc c as hk hS' hl' hG hacc => hR h' tk acc c as (fun b o h1 h2 h3 q => hk b o h1 h2 h3 (oth b o h1 q)) hS' hl' hG hacc) hn
theorem enu_call {E : Value → Shared → Prop} {Q : Value → Shared → Prop} {e it l : Addr} (hh : A.handled = none) (he : IsEnum s.heap e it 0 .none) (hit : s.heap.IsListIter it l 0) (hl : s.heap.IsList l items) (hne : e ≠ it) (hle : l ≠ e) (hli : l ≠ it) (hn : items.size ≤ sizeLine)
    (hQ : ∀ h' tk acc c as, (∀ b o, b ≠ e → b ≠ it → s.heap.get? b = some o → h'.get? b = some o) → h'.get? s.heap.objs.size = some { cls := .type "list", dict := none, data := .seq acc c, slots := #[] } → as.length = items.size → EnuG items s.heap.objs.size h' as →
      acc.toList = as.map Value.ref → Q (.ref s.heap.objs.size) { s with heap := h', toks := tk }) :
    wpAny (model prog w) A (call (.type "list") [.ref e]) Q E s := by
  refine callType_codes (Q₁ := fun obj s₁ => obj = .ref s.heap.objs.size ∧ s₁ = { s with heap := s.heap.push { cls := .type "list", data := .seq #[] } }) PySem.F.called_list (PySem.F.typeCall_list_1 _) PySem.F.entry_list_init
    (code_list_new _ ⟨rfl, rfl⟩) fun obj s₁ h₁ => ?_
  obtain ⟨rfl, rfl⟩ := h₁
  have hS : (s.heap.push { cls := .type "list", data := .seq #[] }).get? s.heap.objs.size = some { cls := .type "list", data := .seq #[] } := Heap.get?_push_size _ rfl
  have hel : e < s.heap.objs.size := Heap.lt_size he
  have hil : it < s.heap.objs.size := by obtain ⟨_, q, _⟩ := hit; exact Heap.lt_size q
  have hll : l < s.heap.objs.size := by obtain ⟨_, q, _⟩ := hl; exact Heap.lt_size q
  refine ⟨⟨_, hS, rfl⟩, PySem.F.args_list_init_2 _ _, enu_init (A := A.in1) hh (Heap.get?_push_of_some _ he) (hit.at fun o q => Heap.get?_push_of_some _ q) (hl.at fun o q => Heap.get?_push_of_some _ q) hne (Nat.ne_of_gt hel) (Nat.ne_of_gt hil) (Nat.ne_of_lt hll) hle hli (Nat.le_of_lt hel) (Nat.le_of_lt hil) hS (fun h' tk acc c as hk hS' hl' hG hacc => ?_) hn⟩
  exact ⟨rfl, hQ h' tk acc c as (fun b o h2 h3 q => hk b o (Nat.ne_of_lt (Heap.lt_size q)) h2 h3 (Heap.get?_push_of_some _ q)) hS' hl' hG hacc⟩
end
/-! ### in the layer -/
def putE : Hp → List Addr → Nat → List V → Hp
  | H, a :: as, n, x :: xs => putE (upd H a (.tup [.int (n : Int), x])) as (n + 1) xs
  | H, _, _, _ => H
theorem putE_off {b : Addr} : ∀ (as : List Addr) (n : Nat) (xs : List V) (H : Hp), b ∉ as → putE H as n xs b = H b
  | [], _, _, _, _ => rfl
  | _ :: _, _, [], _, _ => rfl
  | a :: as, n, x :: xs, H, h => by
    show putE (upd H a _) as (n + 1) xs b = H b
    rw [putE_off as (n + 1) xs _ (fun z => h (List.mem_cons_of_mem _ z)), upd_ne (fun z => h (by rw [z]; exact List.mem_cons_self))]
theorem putE_at : ∀ (as : List Addr) (n : Nat) (xs : List V) (H : Hp), as.length = xs.length → as.Nodup → ∀ (j : Nat) (a : Addr) (x : V), as[j]? = some a → xs[j]? = some x → putE H as n xs a = some (.tup [.int ((n + j : Nat) : Int), x])
  | [], n, xs, H, _, _, j, a, x, h, _ => by simp at h
  | b :: as, n, [], H, hl, _, j, a, x, _, h => by simp at h
  | b :: as, n, y :: xs, H, hl, hn, j, a, x, h, h2 => by
    have hn' := List.nodup_cons.mp hn
    cases j with
    | zero =>
      have e1 : b = a := by simpa using h
      have e2 : y = x := by simpa using h2
      subst e1 e2
      show putE (upd H b _) as (n + 1) xs b = _
      rw [putE_off as (n + 1) xs _ hn'.1, upd_same]; rfl
    | succ j =>
      have := putE_at as (n + 1) xs (upd H b (.tup [.int (n : Int), y])) (by simpa using hl) hn'.2 j a x (by simpa using h) (by simpa using h2)
      show putE (upd H b _) as (n + 1) xs a = _
      rw [this, show n + 1 + j = n + (j + 1) by omega]
section
variable {X : Cx} {G : Ctx} {M : MCtx} {e : Expr} {p p2 pos pos2 : Pos} {Ps : List VP}
theorem enu_laid {pins : List (Addr × Obj)} {σ : L2.St} {H : Hp} {s : Shared} {h' : Heap} {tk : Nat} {xs : List V} {us : List Value} {acc : Array Value} {c S : Nat} {as : List Addr} (I : Inv X pins σ H s) (hz : xs.length ≤ sizeLine) (rv : Vals xs us)
    (hk : ∀ b o, s.heap.get? b = some o → h'.get? b = some o) (hSs : s.heap.objs.size ≤ S) (hS : h'.get? S = some { cls := .type "list", dict := none, data := .seq acc c, slots := #[] }) (hl : as.length = us.length) (hG : EnuG us.toArray S h' as) (hacc : acc.toList = as.map Value.ref) :
    ∃ H' : Hp, Same H H' ∧ H' S = some (.lst (as.map V.ref)) ∧ (∀ (j : Nat) (a : Addr) (x : V), as[j]? = some a → xs[j]? = some x → H' a = some (.tup [.int (j : Int), x])) ∧ Inv X pins σ H' { s with heap := h', toks := tk } := by
  have lk : xs.length = us.length := rv.length
  have hSn : S ∉ as := fun z => Nat.lt_irrefl _ (hG.above _ z)
  have nd : as.Nodup := List.Pairwise.imp (fun {a b} (h : a < b) => Nat.ne_of_lt h) hG.rise
  have new : ∀ t ∈ as, H t = none := fun t ht => I.hok.fresh (Nat.le_trans hSs (Nat.le_of_lt (hG.above t ht)))
  have newS : H S = none := I.hok.fresh hSs
  have atP := putE_at as 0 xs (upd H S (.lst (as.map V.ref))) (by omega) nd
  have off : ∀ b, b ∉ as → b ≠ S → putE (upd H S (.lst (as.map V.ref))) as 0 xs b = H b := fun b h1 h2 => by rw [putE_off as 0 xs _ h1, upd_ne h2]
  have low : ∀ b o, s.heap.get? b = some o → b ∉ as ∧ b ≠ S := fun b o q => by
    have hb := Heap.lt_size q
    exact ⟨fun z => absurd hb (Nat.not_lt.mpr (Nat.le_trans hSs (Nat.le_of_lt (hG.above b z)))), Nat.ne_of_lt (Nat.lt_of_lt_of_le hb hSs)⟩
  have kp : ∀ b u, H b = some u → (putE (upd H S (.lst (as.map V.ref))) as 0 xs) b = some u := fun b u q => by
    rw [off b (fun z => by rw [new b z] at q; cases q) (fun z => by rw [z, newS] at q; cases q)]
    exact q
  have eS : putE (upd H S (.lst (as.map V.ref))) as 0 xs S = some (.lst (as.map V.ref)) := by rw [putE_off as 0 xs _ hSn, upd_same]
  refine ⟨putE (upd H S (.lst (as.map V.ref))) as 0 xs, kp, eS, fun j a x h1 h2 => by rw [atP j a x h1 h2, Nat.zero_add], ?_⟩
  refine I.call' (ch := []) rfl ⟨fun b o q _ _ _ => hk b o q, fun b o q _ _ _ => ⟨o.slots, hk b o q⟩, fun b o q n _ => ?_, fun b o q _ => ⟨o, hk b o q⟩, fun b xs q => kp b _ q, fun b o u q => kp b _ q, fun b ps q => ⟨#[], by rw [kp b _ q]; simp⟩⟩ (fun b u q => ?_) I.bare fun b z => by simp at z
  · obtain ⟨z1, z2⟩ := low b o q
    rw [off b z1 z2]
    exact n
  · by_cases hb : b ∈ as
    · obtain ⟨j, hj⟩ := List.mem_iff_getElem?.mp hb
      obtain ⟨t, x, f1, f3⟩ := hG.pairs j b hj
      have f1' : us[j]? = some x := by simpa using f1
      have hjl : j < us.length := (List.getElem?_eq_some_iff.mp f1').1
      have hx := List.getElem?_eq_getElem (l := xs) (i := j) (by omega)
      rw [atP j b _ hj hx] at q
      cases q
      obtain ⟨u, g1, g2⟩ := rv.get hx
      have : u = x := by
        rw [f1'] at g1
        exact (Option.some.inj g1).symm
      subst this
      exact ⟨by show 2 ≤ sizeLine; decide, [.int (j : Int) t, u], .cons ⟨t, by rw [Nat.zero_add]⟩ (.cons g2 .nil), ⟨_, f3, rfl, _, rfl⟩⟩
    · by_cases hb2 : b = S
      · rw [hb2] at q ⊢
        rw [eS] at q
        cases q
        refine ⟨by rw [List.length_map]; omega, acc.toList, c, by rw [hacc]; exact LiI.vals_refs as, ?_⟩
        rw [Array.toArray_toList]
        exact hS
      · rw [off b hb hb2] at q
        exact (I.hok b u q).stay (fun d v _ y => hk d v y) (fun d y => kp d _ y) fun d xs y => kp d _ y
def rEnuL (K : PySem.W.Frag) : V → Hp → VK → Prop := fun x H Q => ∃ (d : Addr) (xs : List V), x = .ref d ∧ SqL K H d xs ∧
  ∀ (H' : Hp) (S : Addr) (as : List Addr), Same H H' → as.length = xs.length → H' S = some (.lst (as.map V.ref)) → (∀ (j : Nat) (a : Addr) (x : V), as[j]? = some a → xs[j]? = some x → H' a = some (.tup [.int (j : Int), x])) → Q (.ref S) H'
/-- list(enumerate(e)), e a list -/
theorem pe_listEnum {te : TE} (hc : X.calm = true) (he : PE X e te) (hg : Gl X "list") (hm : X.mg "list" = none) (hg2 : Gl X "enumerate") (hm2 : X.mg "enumerate" = none)
    (hs : starEach [.Call (.Name "enumerate" p2) [e] [] pos2] X.env = (false, eval (.Call (.Name "enumerate" p2) [e] [] pos2) X.env) :: starEach [] X.env := by rfl) (hs2 : starEach [e] X.env = (false, eval e X.env) :: starEach [] X.env := by rfl) :
    PE X (.Call (.Name "list" p) [.Call (.Name "enumerate" p2) [e] [] pos2] [] pos) (fun t H Q => te t H fun x H1 => rEnuL X.K x H1 Q) := by
  refine ⟨fun pins s σ H Q I hq => ?_⟩
  refine wpAny_Call_Name_kw (ld_blt I hg hm PyProof.Rows.boot_list ?_)
  refine PyProof.Rows.callWith_type1 ?_ hs rfl
  rw [hs]
  show wpAny _ _ (spliced ((false, eval (.Call (.Name "enumerate" p2) [e] [] pos2) X.env) :: backTo pos (starEach [] X.env))) _ _ s
  refine Calls.spliced_cons ?_
  refine wpAny_Call_Name_kw (ld_blt I hg2 hm2 PyProof.Rows.boot_enumerate ?_)
  refine PyProof.Rows.callWith_type1 ?_ hs2 rfl
  rw [hs2]
  show wpAny _ _ (spliced ((false, eval e X.env) :: backTo pos2 (starEach [] X.env))) _ _ s
  refine Calls.spliced_cons (thn (he.run pins s σ H _ I hq) fun u s1 ⟨x, H1, I1, rx, d, xs, ex, hd, q⟩ => ?_)
  refine Calls.spliced_nil ?_
  subst ex
  obtain rfl : u = Value.ref d := rx
  obtain ⟨its, rv, p', hz⟩ := I1.list hd
  have hdl : d < s1.heap.objs.size := p'.lt
  refine call_enumerate_list p'.isList fun h' he' hit hsz hk => ?_
  refine Calls.spliced_nil ?_
  have I2 : Inv X pins σ H1 { s1 with heap := h' } := I1.kept (t' := s1.toks) hk
  have pl2 : h'.IsList d its.toArray := p'.isList.at fun o q => hk d o q
  have lk := rv.length
  refine enu_call (s := { s1 with heap := h' }) (items := its.toArray) (I1.ok.hd hc) he' hit pl2 (Nat.succ_ne_self _) (Nat.ne_of_lt (Nat.lt_succ_of_lt hdl)) (Nat.ne_of_lt hdl) (by rw [List.size_toArray]; omega) fun h'' tk acc c as hk2 hS hl hG hacc => ?_
  have hk3 : ∀ b o, s1.heap.get? b = some o → h''.get? b = some o := fun b o q => by
    have hb := Heap.lt_size q
    exact hk2 b o (Nat.ne_of_lt (Nat.lt_succ_of_lt hb)) (Nat.ne_of_lt hb) (hk b o q)
  obtain ⟨H', k1, k2, k3, J⟩ := enu_laid (tk := tk) I1 hz rv hk3 (show s1.heap.objs.size ≤ h'.objs.size by rw [hsz]; exact Nat.le_add_right _ _) hS (by rw [hl, List.size_toArray]) hG hacc
  exact ⟨.ref _, H', J, rfl, q H' _ as k1 (by rw [hl, List.size_toArray, lk]) k2 k3⟩
theorem e_listEnum (hc : X.calm = true) (he : TyE X e G [] (vLs Ps)) (hg : Gl X "list") (hm : X.mg "list" = none) (hg2 : Gl X "enumerate") (hm2 : X.mg "enumerate" = none)
    (hs : starEach [.Call (.Name "enumerate" p2) [e] [] pos2] X.env = (false, eval (.Call (.Name "enumerate" p2) [e] [] pos2) X.env) :: starEach [] X.env := by rfl) (hs2 : starEach [e] X.env = (false, eval e X.env) :: starEach [] X.env := by rfl) :
    TyE X (.Call (.Name "list" p) [.Call (.Name "enumerate" p2) [e] [] pos2] [] pos) G M (vLs ((List.range Ps.length).map fun i => vTu [vI ((i : Nat) : Int), atP Ps i])) := by
  refine TyE.frame (PE.imp (pe_listEnum hc he hg hm hg2 hm2 hs hs2) fun t H Q ⟨Hf, o, m, k⟩ => ⟨Hf, o, m, fun v Hf' H' s' m' pv => ?_⟩)
  have e := m'.nil
  subst e
  obtain ⟨ad, xs, rfl, hx, its⟩ := pv
  refine ⟨ad, xs, rfl, SqL.of hx, fun H2 S as sm hl hS hat => k _ H2 H2 (s'.trans sm) (okm_nil _) ⟨S, _, rfl, hS, ?_⟩⟩
  have hlx := its.len
  have key : ∀ (n : Nat) (bs : List Addr) (Rs : List VP) (ys : List V), bs.length = Rs.length → (∀ (j : Nat) (a : Addr) (P : VP), bs[j]? = some a → Rs[j]? = some P → P.p (.ref a) H2) → Items Rs (bs.map V.ref) H2 := by
    intro n bs
    induction bs with
    | nil => intro Rs ys h1 h2; cases Rs with
      | nil => trivial
      | cons _ _ => simp at h1
    | cons b bs ih => intro Rs ys h1 h2; cases Rs with
      | nil => simp at h1
      | cons R Rs => exact ⟨h2 0 b R rfl rfl, ih Rs ys (by simpa using h1) fun j a P q1 q2 => h2 (j + 1) a P (by simpa using q1) (by simpa using q2)⟩
  refine key 0 as _ xs (by rw [List.length_map, List.length_range, hl, hlx]) fun j a P q1 q2 => ?_
  have hj : j < Ps.length := by
    have := (List.getElem?_eq_some_iff.mp q1).1
    omega
  rw [List.getElem?_map, List.getElem?_range hj] at q2
  cases q2
  obtain ⟨x, hx2, px⟩ := its.get (atP_get hj)
  exact ⟨a, _, rfl, hat j a x q1 hx2, rfl, (atP Ps j).m _ _ _ sm px, trivial⟩
end
end K31
set_option Elab.async false
set_option linter.all false
set_option maxRecDepth 100000
set_option maxHeartbeats 2000000
/-! T10: functions that change what they are handed. -/
namespace K31
open PySem PySem.Spec L2
/-- M before, M' after -/
def spM (M : MCtx) (Ps : List VP) (M' : MCtx) (R : VP) : Sp := fun vs H Q _ => ∃ Hf, OkM M Hf H ∧ Items Ps vs Hf ∧ ∀ v Hf' H', Same Hf Hf' → OkM M' Hf' H' → R.p v Hf' → Q v H'
def TyX (X : Cx) (e : Expr) (G : Ctx) (M M' : MCtx) (P : VP) : Prop := PE X e (fun t H Q => ∃ Hf, OkS G t Hf ∧ OkM M Hf H ∧ ∀ v Hf' H', Same Hf Hf' → OkM M' Hf' H' → P.p v Hf' → Q v H')
section
variable {P : Program} {w : World} {K : PySem.W.Frag} {mg : Str → Option Value} {base : Heap} {x qual : Str} {params : Arguments} {body : List Stmt} {scope : Scope} {dvs : List V} {kws : List (Str × V)} {f : Addr} {fd : FuncData} {N ps : List Str} {k : Nat} {Ps : List VP} {R : VP} {C : Addr} {M M' : MCtx}
theorem fn_M (F : FunD K x qual params body scope dvs kws f fd) (S : FnScope N ps scope) (hl : Ps.length = ps.length)
    (hb : ∀ (cdv : Value) (A : Around) (outer : List Env) (s : Shared) (H Hf : Hp) (E : XK) (Q : VK), Room k (A.deeper (PyProof.Rows.envOfC qual scope s.heap.objs.size f cdv)) → (∀ v Hf' H', Same Hf Hf' → OkM M' Hf' H' → R.p v Hf' → Q v H') →
      SOk (cx0 P w K mg base N qual scope f cdv A outer s H E) body Hf (startC N.length Ps) M { nx := fun _ H' => Q .non H', rt := Q }) : FnOk P w K mg base CX0 (k + 1) f fd ps (spM M Ps M' R) :=
  FunD.ok F S (fun vs H Q E ⟨_, _, its, _⟩ => by rw [its.len, hl]) fun cdv A outer s H vs Q E hr ⟨Hf, m, its, q⟩ =>
    ⟨_, PSs.nox go_pss, hb cdv A outer s H Hf E Q hr q _ Hf H (Same.refl Hf) (okS_start its) m⟩
structure CalM (P : Program) (w : World) (K : PySem.W.Frag) (mg : Str → Option Value) (base : Heap) (k : Nat) (x : Str) (M : MCtx) (Ps : List VP) (M' : MCtx) (R : VP) : Prop where
  ex : ∃ (f : Addr) (fd : FuncData) (ps : List Str), FnOk P w K mg base CX0 k f fd ps (spM M Ps M' R) ∧ mg x = some (.ref f) ∧ PySem.W.keepIn K (.ref f) = true ∧ Binds K fd ps []
structure MetM (P : Program) (w : World) (K : PySem.W.Frag) (mg : Str → Option Value) (base : Heap) (k : Nat) (C : Addr) (m : Str) (M : MCtx) (Ps : List VP) (M' : MCtx) (R : VP) : Prop where
  ex : ∃ (f : Addr) (fd : FuncData) (ps : List Str), Cls K C ∧ Meth K C m f ∧ FnOk P w K mg base CX0 k f fd ps (spM M Ps M' R) ∧ Binds K fd ps []
/-- an __init__ that leaves a list to be changed in a field -/
def spJ (C : Addr) (Ps : List VP) (fs : Addr → List (Str × VP)) : Sp := fun vs H Q _ => ∃ H0 x dx ws, vs = .ref x :: ws ∧ H = upd (upd H0 dx (.own x)) x (.ins C dx []) ∧ H0 x = none ∧ H0 dx = none ∧ dx ≠ x ∧ Items Ps ws H0 ∧
  ∀ ad Hf' H', Same H0 Hf' → OkM [.l ad [], .i x dx C (fs ad)] Hf' H' → Q .non H'
theorem fn_J {fs : Addr → List (Str × VP)} (F : FunD K x qual params body scope dvs kws f fd) (S : FnScope N ps scope) (hl : Ps.length + 1 = ps.length)
    (hb : ∀ (cdv : Value) (A : Around) (outer : List Env) (s : Shared) (H H0 : Hp) (E : XK) (Q : VK) (y dx : Addr), Room k (A.deeper (PyProof.Rows.envOfC qual scope s.heap.objs.size f cdv)) → (∀ ad Hf' H', Same H0 Hf' → OkM [.l ad [], .i y dx C (fs ad)] Hf' H' → Q .non H') →
      SOk (cx0 P w K mg base N qual scope f cdv A outer s H E) body H0 (startC N.length (vAt y :: Ps)) [.i y dx C []] { nx := fun _ H' => Q .non H', rt := Q }) : FnOk P w K mg base CX0 (k + 1) f fd ps (spJ C Ps fs) :=
  FunD.ok F S (fun vs H Q E h => by
    obtain ⟨H0, y, dx, ws, rfl, _, _, _, _, its, _⟩ := h
    rw [List.length_cons, its.len, hl]) fun cdv A outer s H vs Q E hr h => by
    obtain ⟨H0, y, dx, ws, rfl, hH, hy, hdx, hne, its, q⟩ := h
    refine ⟨_, PSs.nox go_pss, hb cdv A outer s H H0 E Q y dx hr q _ H0 H (Same.refl H0) (okS_start (Ps := vAt y :: Ps) ⟨rfl, its⟩) ⟨[.i y dx C []], hH, ⟨⟨hy, hdx, hne⟩, trivial⟩, ⟨rfl, rfl, rfl, trivial⟩, trivial⟩⟩
structure MakJ (P : Program) (w : World) (K : PySem.W.Frag) (mg : Str → Option Value) (base : Heap) (k : Nat) (x : Str) (C : Addr) (Ps : List VP) (fs : Addr → List (Str × VP)) : Prop where
  ex : ∃ (f : Addr) (fd : FuncData) (ps : List Str), Mk K C f ∧ FnOk P w K mg base CX0 k f fd ps (spJ C Ps fs) ∧ mg x = some (.ref C) ∧ Binds K fd ps []
end
section
variable {X : Cx} {G : Ctx} {M M' : MCtx} {P Pa Pb R : VP} {a b c e o : Expr} {es : List Expr} {pos p apos : Pos} {Ps Qs : List VP} {H0 : Hp} {D : Ends} {rest sts body : List Stmt} {st : Stmt} {k j : Nat} {x m : Str} {C : Addr}
theorem TyX.ty {e : Expr} (h : TyX X e G M M P) : TyE X e G M P := h
theorem s_asgX (i : Nat) {x : Str} {p' : Pos} (he : TyX X e G M M' P) (h : SOk X rest H0 (G.set i (some P)) M' D) (hN : X.N.Nodup) (hi : X.N[i]? = some x := by rfl) (hx : Loc X.env.scope x := by first | exact Or.inl rfl | exact Or.inr rfl)
    (hs : swapsWith e (some (.Name x p')) pos.line X.env = pure false := by rfl) (hf : X.fn x = true ∨ X.env.scope.names.lookup x = some .local := by first | exact .inl rfl | exact .inr rfl) : SOk X (.Assign [.Name x p'] e pos :: rest) H0 G M D :=
  s_cons (ps_set hN hi hx he hs hf) fun t Hf H s o m => ⟨Hf, o, m, fun v Hf' H' s' m' p => h _ Hf' H' (s.trans s') ((o.mono s').set p) m'⟩
theorem s_retM (he : TyE X e G M R) {Q : VK} (hD : D.rt = Q) (k : ∀ v Hf' H', Same H0 Hf' → OkM M Hf' H' → R.p v Hf' → Q v H') : SOk X (.Return (some e) pos :: rest) H0 G M D :=
  s_ret he fun v Hf H s m p => by rw [hD]; exact k v Hf H s m p
theorem e_callM {e : Expr} (c : CalM X.prog X.w X.K X.mg X.base k x M Ps M' R) (hr : Room k X.A) (hg : Gl X x) (ha : TyA X (e :: es) G M Ps)
    (hdb : (x == ("__debug__" : Str)) = false := by decide) (he : starEach (e :: es) X.env = (false, eval e X.env) :: starEach es X.env := by rfl) (hpl : (backTo pos (starEach es X.env)).any (·.1) = false := by rfl) :
    TyX X (.Call (.Name x p) (e :: es) [] pos) G M M' R := by
  obtain ⟨f, fd, ps, F, hm, kp, b⟩ := c.ex
  refine PE.imp (pe_call (dvs := []) F hr hg hm kp b .nil pass0 ha hdb he hpl) fun t H Q ⟨Hf, ok, m, q⟩ => ⟨Hf, ok, m, fun vs Hf' H' s m' its => ⟨Hf', m', by rw [List.append_nil]; exact its, fun v Hf2 H2 s2 m2 r => q v Hf2 H2 (s.trans s2) m2 r⟩⟩
/-- o.m(..), o an instance that is being changed -/
theorem e_mthM (l : Nat) {y dx : Addr} {fs : List (Str × VP)} {ks : List Str} {pl : Sem Bool} {e : Expr} (c : MetM X.prog X.w X.K X.mg X.base k C m M (vAt y :: Ps) M' R) (hM : M[l]? = some (.i y dx C fs)) (hks : fs.map (·.1) = ks) (hm : ks.contains m = false) (hr : Room k X.A) (ho : TyE X o G M (vAt y)) (ha : TyA X (e :: es) G M Ps)
    (hst : starEach (e :: es) X.env = (false, eval e X.env) :: starEach es X.env := by rfl) (hpl : (backTo pos (starEach es X.env)).any (·.1) = false := by rfl)
    (ht : eval (.Call (.Attribute o m apos) (e :: es) [] pos) X.env = (do
      let ov ← eval o X.env
      standAt apos.atName
      let (f, first) ← holding [ov] (getMethod ov m pl)
      callWith pos f first (backTo pos (starEach (e :: es) X.env)) (backToKw pos (keywordEach [] X.env))) := by rfl) :
    TyX X (.Call (.Attribute o m apos) (e :: es) [] pos) G M M' R := by
  obtain ⟨f, fd, ps, hc, hmt, F, b⟩ := c.ex
  refine PE.imp (pe_meth (pl := pl) (dvs := []) ho hc hmt F hr b .nil pass0 ha hst hpl ht) fun t H Q ⟨Hf, ok, mm, q⟩ => ⟨Hf, ok, mm, fun v Hf' H' s m' (pv : v = .ref y) => ?_⟩
  subst pv
  obtain ⟨gs, hy, fi⟩ := m'.atI hM
  refine ⟨y, dx, gs, rfl, hy, lookup_keys (by rw [keys_FIt fi, hks]; exact hm), Hf', ok.mono s, m', fun vs Hf2 H2 s2 m2 its => ?_⟩
  exact ⟨Hf2, m2, by rw [List.append_nil]; exact ⟨rfl, its⟩, fun v Hf3 H3 s3 m3 r => q v Hf3 H3 ((s.trans s2).trans s3) m3 r⟩
/-- x = Relation(..) -/
theorem s_asgJ (i : Nat) {fs : Addr → List (Str × VP)} {y : Str} {py spos : Pos} {e : Expr} (c : MakJ X.prog X.w X.K X.mg X.base k x C Ps fs) (hr : Room (k + 1) X.A) (hg : Gl X x) (ha : TyA X (e :: es) G [] Ps)
    (h : ∀ z dx ad, SOk X rest H0 (G.set i (some (vAt z))) [.l ad [], .i z dx C (fs ad)] D) (hN : X.N.Nodup) (hi : X.N[i]? = some y := by rfl) (hx : Loc X.env.scope y := by first | exact Or.inl rfl | exact Or.inr rfl)
    (hs : swapsWith (.Call (.Name x p) (e :: es) [] pos) (some (.Name y py)) spos.line X.env = pure false := by rfl) (hf : X.fn y = true ∨ X.env.scope.names.lookup y = some .local := by first | exact .inl rfl | exact .inr rfl)
    (hdb : (x == ("__debug__" : Str)) = false := by decide) (he : starEach (e :: es) X.env = (false, eval e X.env) :: starEach es X.env := by rfl) (hpl : (backTo pos (starEach es X.env)).any (·.1) = false := by rfl) :
    SOk X (.Assign [.Name y py] (.Call (.Name x p) (e :: es) [] pos) spos :: rest) H0 G [] D := by
  obtain ⟨f, fd, ps, Mk, F, hm, b⟩ := c.ex
  refine s_cons (ps_set hN hi hx (pe_make (dvs := []) Mk F hr hg hm b .nil pass0 ha hdb he hpl) hs hf) fun t Hf H s ok m => ⟨Hf, ok, m, fun vs Hf' H' s' m' its => ?_⟩
  have e := m'.nil
  subst e
  intro z dx hz hdx hne
  exact ⟨_, z, dx, vs ++ [], rfl, rfl, hz, hdx, hne, by rw [List.append_nil]; exact its, fun ad Hf2 H2 s2 m2 => ⟨rfl, h z dx ad _ Hf2 H2 ((s.trans s').trans s2) (((ok.mono s').mono s2).set rfl) m2⟩⟩
/-- self.f = a new list that will be changed -/
theorem s_fldN (k : Nat) {z dx C : Addr} {fs : List (Str × VP)} {f : Str} {o v : Expr} {pos' : Pos} (hM : M[k]? = some (.i z dx C fs)) (ho : ∀ m, TyE X o G (m :: M) (vAt z)) (hv : TyN X v G M Ps) (c : Cls X.K C) (n : NoAttr X.K C f) (hl : fs.length < 1000)
    (h : ∀ ad, SOk X rest H0 G (.l ad Ps :: M.set k (.i z dx C (putP f (vAt ad) fs))) D) (hs : swapsWith v (some (.Attribute o f pos')) pos.line X.env = pure false := by rfl) : SOk X (.Assign [.Attribute o f pos'] v pos :: rest) H0 G M D := by
  have ho2 : PE X o (fun t H Q => ∃ m, rd G (m :: M) (vAt z) t H Q) := ⟨fun pins s t H Q I ⟨m, w⟩ => (ho m).run pins s t H Q I w⟩
  refine s_cons (ps_fld ho2 hv hs) fun t Hf H s ok m => ⟨Hf, ok, m, fun ad H1f H1 s1 m1 => ⟨.l ad Ps, H1f, ok.mono s1, m1, fun y H2f H2 s2 m2 (pz : y = .ref z) => ?_⟩⟩
  obtain ⟨gs, hx, its⟩ := m2.atI (k := k + 1) (by simpa using hM)
  have m3 := m2.putI (k := k + 1) (fs' := putP f (vAt ad) fs) (by simpa using hM) (its.put (P := vAt ad) (x := .ref ad) rfl)
  exact ⟨z, C, dx, gs, pz, hx, c, n, by rw [its.len]; exact hl, h ad t H2f _ ((s.trans s1).trans s2) ((ok.mono s1).mono s2) m3⟩
/-- a new list by + -/
theorem n_cat (ha : TyE X a G M (vLs Ps)) (hb : TyE X b G M (vLs Qs)) (hl : Ps.length + Qs.length ≤ 100000) : TyN X (.BinOp a .Add b pos) G M (Ps ++ Qs) :=
  PE.imp (pe_op op_cat ha hb) fun t H Q ⟨Hf, o, m, k⟩ => ⟨Hf, o, m, fun x H1f H1 s1 m1 pa => ⟨H1f, o.mono s1, m1, fun y H2f H2 s2 m2 pb => by
    obtain ⟨l, xs, rfl, hx, its⟩ := pa
    obtain ⟨r, ys, rfl, hy, its2⟩ := pb
    have i1 := its.mono s2
    exact ⟨l, r, xs, ys, rfl, rfl, m2.same _ _ (s2 _ _ hx), m2.same _ _ hy, by rw [i1.len, its2.len]; exact Nat.le_trans hl (by decide), fun q hq => k q H2f _ (s1.trans s2) (m2.push hq (i1.append its2))⟩⟩⟩
/-- a walk over a list that is being changed elsewhere, not in the loop -/
def PItM (X : Cx) (tg iter : Expr) (G : Ctx) (M : MCtx) (ad : Addr) : Prop := PI X tg iter (fun t H R => ∃ Hf, OkS G t Hf ∧ OkM M Hf H ∧ ∀ Hf' H', Same Hf Hf' → OkM M Hf' H' → R (Itl X.K ad) H')
theorem pi_mut (l : Nat) {ad : Addr} {tg : Expr} (h : TyE X e G M (vAt ad)) (hM : M[l]? = some (.l ad Ps)) : PItM X tg e G M ad := by
  refine ⟨fun pins s t H R I q => ?_⟩
  obtain ⟨Hf, o, m, k⟩ := q
  refine thn (h.run pins s t H (fun x H1 => ∃ Hf', Same Hf Hf' ∧ OkM M Hf' H1 ∧ x = .ref ad) I ⟨Hf, o, m, fun v Hf' H' s' m' p => ⟨Hf', s', m', p⟩⟩) fun v s1 ⟨x, H1, I1, r1, Hf', s', m', ex⟩ => ?_
  subst ex
  cases r1
  obtain ⟨xs, hx, its⟩ := m'.at_ hM
  obtain ⟨us, rv, p, hz⟩ := I1.list (SqL.of (K := X.K) hx)
  refine PySem.wpAny_pyIter_list p.isList ?_
  refine ⟨s1.heap.objs.size, [s1.heap.objs.size], _, _, H1, rfl, I1.kept (t' := s1.toks) fun b o e => Heap.get?_push_of_some _ e, turn_list ad _, ⟨_, Heap.get?_push_size _ rfl, rfl, rfl⟩, fun b hb => ?_, k Hf' H1 s' m'⟩
  have e : b = s1.heap.objs.size := by simpa using hb
  subst e
  exact I1.fpOk (Nat.le_refl _) (I1.hok.fresh (Nat.le_refl _))
theorem s_forM (l : Nat) {I : Type} {tg iter : Expr} {ad : Addr} {n : Nat} {g : TG} (hit : PItM X tg iter G M ad) (hn : Ps.length = n) (hg : PG X tg g) (sG : Nat → Ctx → Ctx)
    (hgo : ∀ (i : Nat) (G : Ctx) (x : V) (t : L2.St) (Hf H : Hp) (Q : L2.St → Hp → Prop), i < n → (atP Ps i).p x Hf → OkS G t Hf → Same Hf H → (∀ t', OkS (sG i G) t' Hf → Q t' H) → g x t H Q)
    (Good : Nat → I → Prop) (Gf : Nat → I → Ctx) (Mf : Nat → I → MCtx) (hMf : ∀ k i, (Mf k i)[l]? = some (.l ad Ps)) (i0 : I) (h0 : Good 0 i0) (hG0 : SubC (Gf 0 i0) G) (hM0 : M = Mf 0 i0)
    (hb : ∀ (Hb : Hp) (k : Nat) (i : I), Same H0 Hb → k < n → Good k i → SOk X body Hb (sG k (Gf k i)) (Mf k i) { D with nx := Nx Hb (Good (k + 1)) (Gf (k + 1)) (Mf (k + 1)), ct := Nx Hb (Good (k + 1)) (Gf (k + 1)) (Mf (k + 1)), bk := Go X rest D })
    (hd : ∀ (Hb : Hp) (i : I), Same H0 Hb → Good n i → SOk X rest Hb (Gf n i) (Mf n i) D) (hp : PassesOwn (model X.prog X.w) X.A X.env X.xe) (hc : X.calm = true := by rfl) (hs : ∀ x, foldedSetIterable iter X.env x = pure x := by intro _; rfl) : SOk X (.For tg iter body [] pos :: rest) H0 G M D := by
  refine s_cons (ps_for hp hc hit hg go_pss hs) fun t Hf H s o m => ⟨Hf, o, m, fun Hf' H' s' m' => ?_⟩
  have sb : Same H0 Hf' := s.trans s'
  refine ⟨fun k mm t' H1 => mm = n - k ∧ k ≤ n ∧ Nx Hf' (Good k) (Gf k) (Mf k) t' H1, ⟨n, by simp, Nat.zero_le _, i0, Hf', h0, Same.refl _, (o.mono s').sub hG0, hM0 ▸ m'⟩, ?_⟩
  rintro k mm t' H1 ⟨rfl, hk, i, Hg, hi, sg, og, mg⟩
  obtain ⟨xs, hx, its⟩ := mg.at_ (hMf k i)
  have hlen := its.len
  by_cases hlt : k < n
  · have hkx : k < xs.length := by omega
    refine .inr ⟨⟨xs, xs[k], SqL.of hx, List.getElem?_eq_getElem hkx⟩, Nx Hf' (Good (k + 1)) (Gf (k + 1)) (Mf (k + 1)), fun t2 H2 q => ⟨n - (k + 1), by omega, rfl, hlt, q⟩, fun x H2 y => ?_⟩
    obtain ⟨e, y⟩ := y
    subst e
    have hxk := y xs (SqL.of hx)
    obtain ⟨v, hv, pv⟩ := its.get (atP_get (Ps := Ps) (i := k) (by omega))
    rw [hxk] at hv
    cases hv
    exact hgo k (Gf k i) x t' Hg H2 _ hlt pv og mg.same fun t2 o2 => hb Hf' k i sb hlt hi t2 Hg H2 sg o2 mg
  · have e : k = n := by omega
    subst e
    exact .inl ⟨⟨xs, SqL.of hx, by omega⟩, hd Hf' i sb hi t' Hg H1 sg og mg⟩
end
end K31
set_option Elab.async false
set_option linter.all false
set_option maxRecDepth 100000
set_option maxHeartbeats 2000000
/-! W18: tail, raised, unit, change_of_product. -/
namespace K31
open PySem PySem.Spec L2
noncomputable def tlF (A : List RF) : List RF := (List.range (A.length - 1)).map fun k => -(leadF A)⁻¹ * A.getD k 0
structure OkTl (A : List RF) : Prop where
  ne : A ≠ []
  l0 : leadF A ≠ 0
  c1 : Co 50 (leadF A)
  c2 : Co 50 (leadF A)⁻¹
  m : ∀ k, k < A.length - 1 → Co2 (-(leadF A)⁻¹) (A.getD k 0)
  l : A.length ≤ 1000
/-- raised -/
noncomputable def raF (a : Nat) (row : List RF) : List (Nat × RF) := if a + 1 < row.length then [(a + 1, 1)] else (List.range row.length).map fun i => (i, row.getD i 0)
def vPr (K : PySem.W.Frag) (p : Nat × RF) : VP := vTu [vI ((p.1 : Nat) : Int), vF K p.2]
noncomputable def unF (size a : Nat) : List RF := (List.range size).map fun i => if i = a then 1 else 0
section
variable {P : Program} {w : World} {K : PySem.W.Frag} {mg : Str → Option Value} {base : Heap}
theorem fn_getitem (V : Ev P K mg) : ∀ f, Meth K (He.ga K "Operator") "__getitem__" f → PySem.W.fnIn K f = true := fun f h => by
  have h1 := V.W.me_O_getitem.at_
  have h2 := h.at_
  rw [h1] at h2
  cases h2
  exact V.W.m.fO
theorem tail_c (V : Ev P K mg) (A : List RF) (h : OkTl A) : CalT P w K mg base 56 "tail" [vO K A] [] (vLs (vFs K (tlF A))) := by
  obtain ⟨fd, F⟩ := V.W.fd_tail
  have nd := sc_tail.nd
  have hl : 0 < A.length := List.length_pos_iff.mpr h.ne
  have hl2 := h.l
  refine mk_cal (fn_V F sc_tail rfl fun cdv A' outer s H E Q hr q => ?_) V.W.gl_tail F.kp (b1 F)
  refine s_asg 1 (P := vF K (-(leadF A)⁻¹)) (e_un (e_mth0 (ks := ["num", "den"]) (F_invC V h.c1 h.l0) rfl (by decide) hr (by omega) (e_mth0 (ks := ["coefficients"]) (O_leading V A h.ne) rfl (by decide) hr (by omega) (e_nm 0))) (u_own (F_negC V h.c2) hr (by omega))) ?_ nd
  refine s_retV (e_eq (TyN.ty (n_lcG (own := [("k", 2)]) (vs := [2]) (n := A.length - 1) (Zp := fun k => vF K (-(leadF A)⁻¹ * A.getD k 0)) (pit_n (p_range1 (i := ((A.length : Nat) : Int) - 1) (e_mth0 (ks := ["coefficients"]) (O_order V A) rfl (by decide) hr (by omega) (e_nm 0)) (by omega) (by omega) rfl V.W.fr_range) (show _ = A.length - 1 by omega)) (by omega) nd (blk0 (by decide +kernel)) rfl (gow_name 2) (fun _ _ _ _ _ => pg_name (i := 2) nd rfl (Or.inl rfl)) (fun s2 H2 C cl fp i hi => ?_))) ?_) rfl q
  · exact e_bin (e_nm 1) (e_own_ix (j := 50) (O_getitem V A i (by omega)) (fn_getitem V) (hr.mono (by omega)) (by omega) (e_nm (P := vO K A) 0) (e_eq (e_nm (P := vI (0 + (i : Nat))) 2) (show vI (0 + ((i : Nat) : Int)) = vI ((i : Nat) : Int) by congr 1; omega))) (o_own (op := .Mult) (F_mulC V (h.m i hi)) V.W.m.sF hr (by omega))
  · rw [range_vFs]; rfl
theorem raised_c (V : Ev P K mg) (a : Nat) (row : List RF) : CalT P w K mg base 56 "raised" [vI (a : Int), vLs (vFs K row)] [] (vLs ((raF a row).map (vPr K))) := by
  obtain ⟨fd, F⟩ := V.W.fd_raised
  refine mk_cal (fn_V F sc_raised rfl fun cdv A' outer s H E Q hr q => ?_) V.W.gl_raised F.kp (b2 F)
  refine s_ifR (k := decide (((a + 1 : Nat) : Int) < ((row.length : Nat) : Int))) (t_eq (t_cmp (e_eq (e_bin (e_nm (P := vI (a : Int)) 0) (e_int (i := 1)) o_add) (show vI ((a : Int) + 1) = vI ((a + 1 : Nat) : Int) by congr 1)) (e_blt (c_len rfl) rfl V.W.fr_len PySem.boot_len (a_cons (e_sqL (e_nm 1)) a_nil)) o_lt) (by rw [vFs_len])) (fun h => ?_) fun h => ?_
  · have h := of_decide_eq_true h
    have e : raF a row = [(a + 1, 1)] := by unfold raF; rw [if_pos (by omega)]
    rw [e] at q
    refine s_retV (R := vLs [vPr K (a + 1, 1)]) (e_lst (a_cons ?_ a_nil) (show (1 : Nat) ≤ 100 by decide)) rfl q
    refine e_tup (Ps := [vI ((a + 1 : Nat) : Int), vF K 1]) (a_cons ?_ (a_cons ?_ a_nil)) (show (2 : Nat) ≤ 100 by decide)
    · exact e_eq (e_bin (e_nm (P := vI (a : Int)) 0) (e_int (i := 1)) o_add) (show vI ((a : Int) + 1) = vI ((a + 1 : Nat) : Int) by congr 1)
    · exact of_one V ⟨rfl, rfl, rfl, rfl, rfl⟩ hr (by omega) (by rfl) (by rfl)
  · have h := of_decide_eq_false h
    refine s_retV (e_eq (e_listEnum rfl (e_nm (P := vLs (vFs K row)) 1) (by rfl) V.W.fr_list (by rfl) V.W.fr_enumerate) ?_) rfl q
    unfold raF
    rw [if_neg (by omega), vFs_len, List.map_map]
    congr 1
    apply List.map_congr_left
    intro i hi
    have hi := List.mem_range.mp hi
    show _ = vTu [vI ((i : Nat) : Int), vF K (row.getD i 0)]
    rw [vFs_at (by rw [vFs_len]; exact hi)]
theorem unit_c (V : Ev P K mg) (size a : Nat) (hs : size ≤ 1000) : CalT P w K mg base 56 "unit" [vI (size : Int), vI (a : Int)] [] (vLs (vFs K (unF size a))) := by
  obtain ⟨fd, F⟩ := V.W.fd_unit
  have nd := sc_unit.nd
  refine mk_cal (fn_V F sc_unit rfl fun cdv A' outer s H E Q hr q => ?_) V.W.gl_unit F.kp (b2 F)
  refine s_lcG 2 (own := [("_", 3)]) (vs := [3]) (n := size) (Zp := fun _ => vF K 0) (pit_n (p_range1 (i := (size : Int)) (e_nm 0) (by omega) (by omega) rfl V.W.fr_range) (show _ = size by omega)) (by omega) nd (blk0 (by decide +kernel)) rfl (gow_name 3) (fun _ _ _ _ _ => pg_name (i := 3) nd rfl (Or.inl rfl)) (fun s2 H2 C cl fp i hi => of_zero V ⟨rfl, rfl, rfl, rfl, rfl⟩ hr (by omega) (by rfl) (by rfl)) (fun ad => ?_)
  rw [range_vFs]
  have fin : ∀ (l : List RF) (D : Ends), D.rt = Q → l = unF size a → SOk (cx0 P w K mg base N_unit "unit" (defScope st_unit) (He.fAd K ("unit", none)) cdv A' outer s H E) ((defBody st_unit).drop 2) H [some (vI (size : Int)), some (vI (a : Int)), some (vAt ad), none] [.l ad (vFs K l)] D := by
    intro l D hD e
    subst e
    refine s_calm 2 rfl ?_
    exact s_retV (e_nm 2) hD q
  refine s_if (k := decide ((a : Int) < (size : Int))) (t_cmp (e_nm 1) (e_nm 0) o_lt) (fun h => ?_) fun h => ?_
  · have h := of_decide_eq_true h
    refine s_setL 0 (i := a) rfl (of_one V ⟨rfl, rfl, rfl, rfl, rfl⟩ hr (by omega) (by rfl) (by rfl)) (e_nm 2) (e_nm (P := vI (a : Int)) 1) (by rw [vFs_len, List.length_map, List.length_range]; omega) ?_
    refine s_end ?_ rfl
    show SOk _ _ _ _ [MT.l ad _] _
    rw [frow_set (m := unF size a) (by unfold unF; rw [List.length_map, List.length_map]) fun t ht => ?_]
    · exact fin _ _ rfl rfl
    · rw [List.length_map, List.length_range] at ht
      unfold unF
      rw [List.getD_eq_getElem?_getD, List.getD_eq_getElem?_getD, List.getElem?_map, List.getElem?_map, List.getElem?_range ht]; rfl
  · have h := of_decide_eq_false h
    refine s_end (fin _ _ rfl ?_) rfl
    unfold unF
    apply List.map_congr_left
    intro i hi
    have hi := List.mem_range.mp hi
    rw [if_neg (by omega)]
end
end K31
set_option Elab.async false
set_option linter.all false
set_option maxRecDepth 100000
set_option maxHeartbeats 2000000
/-! W19: change_of_product. -/
namespace K31
open PySem PySem.Spec L2
def foldS {σ : Type} (step : σ → Nat → σ) (s : σ) : Nat → σ
  | 0 => s
  | k + 1 => step (foldS step s k) k
noncomputable def ad1 (L : List RF) (a : Nat) (x : RF) : List RF := L.set a (L.getD a 0 + x)
theorem ad1_len (L : List RF) (a : Nat) (x : RF) : (ad1 L a x).length = L.length := List.length_set
noncomputable def pAt (ps : List (Nat × RF)) (t : Nat) : Nat × RF := ps.getD t (0, 0)
noncomputable def in1 (c : RF) (f : Nat → Nat) (ps : List (Nat × RF)) (L : List RF) (t : Nat) : List RF := foldS (fun L t => ad1 L (f (pAt ps t).1) (c * (pAt ps t).2)) L t
theorem in1_len (c : RF) (f : Nat → Nat) (ps : List (Nat × RF)) (L : List RF) : ∀ t, (in1 c f ps L t).length = L.length
  | 0 => rfl
  | t + 1 => by
    show (ad1 (in1 c f ps L t) _ _).length = _
    rw [ad1_len, in1_len c f ps L t]
def OkIn (c : RF) (f : Nat → Nat) (ps : List (Nat × RF)) (L : List RF) : Prop := ∀ t, t < ps.length → f (pAt ps t).1 < L.length ∧ Co2 c (pAt ps t).2 ∧ CanAdd ((in1 c f ps L t).getD (f (pAt ps t).1) 0) (c * (pAt ps t).2)
noncomputable def stJ (v F S : List RF) (i : Nat) (L : List RF) (j : Nat) : List RF :=
  if v.getD (i * S.length + j) 0 = 0 then L else in1 (v.getD (i * S.length + j) 0) (fun k => i * S.length + k) (raF j S) (in1 (v.getD (i * S.length + j) 0) (fun k => k * S.length + j) (raF i F) L (raF i F).length) (raF j S).length
def OkJ (v F S : List RF) (i : Nat) (L : List RF) (j : Nat) : Prop := v.getD (i * S.length + j) 0 ≠ 0 → OkIn (v.getD (i * S.length + j) 0) (fun k => k * S.length + j) (raF i F) L ∧ OkIn (v.getD (i * S.length + j) 0) (fun k => i * S.length + k) (raF j S) (in1 (v.getD (i * S.length + j) 0) (fun k => k * S.length + j) (raF i F) L (raF i F).length)
theorem stJ_len (v F S : List RF) (i : Nat) (L : List RF) (j : Nat) : (stJ v F S i L j).length = L.length := by
  unfold stJ
  split
  · rfl
  · rw [in1_len, in1_len]
theorem foldJ_len (v F S : List RF) (i : Nat) (L : List RF) : ∀ j, (foldS (stJ v F S i) L j).length = L.length
  | 0 => rfl
  | j + 1 => by
    show (stJ v F S i _ j).length = _
    rw [stJ_len, foldJ_len v F S i L j]
noncomputable def stI (v F S : List RF) (L : List RF) (i : Nat) : List RF := foldS (stJ v F S i) L S.length
noncomputable def drF (v : List RF) : List RF := (List.range v.length).map fun k => (v.getD k 0).d
theorem drF_len (v : List RF) : (drF v).length = v.length := by unfold drF; rw [List.length_map, List.length_range]
noncomputable def chK (v F S : List RF) (i : Nat) : List RF := foldS (stI v F S) (drF v) i
theorem chK_len (v F S : List RF) : ∀ i, (chK v F S i).length = v.length
  | 0 => drF_len v
  | i + 1 => by
    show (stI v F S (chK v F S i) i).length = _
    unfold stI
    rw [foldJ_len, chK_len v F S i]
noncomputable def chF (v F S : List RF) : List RF := chK v F S F.length
structure OkCh (v F S : List RF) : Prop where
  lv : v.length = F.length * S.length
  lf : F.length ≤ 100
  ls : S.length ≤ 100
  d : ∀ k, k < v.length → Co 25 (v.getD k 0)
  j : ∀ i, i < F.length → ∀ j, j < S.length → OkJ v F S i (foldS (stJ v F S i) (chK v F S i) j) j
theorem TW.congr {J : It} {n : Nat} {F : Hp → Prop} {Yp Yp' : Nat → VP} (w : TW J n F Yp) (h : ∀ i, i < n → Yp i = Yp' i) : TW J n F Yp' where
  mono := w.mono
  go := w.go
  stop := w.stop
  yld := fun M i Hf H x H' hi hF m y => by
    obtain ⟨Hf', s, m', p⟩ := w.yld M i Hf H x H' hi hF m y
    exact ⟨Hf', s, m', h i hi ▸ p⟩
theorem pit_y {X : Cx} {tg iter : Expr} {G : Ctx} {M : MCtx} {n : Nat} {Yp Yp' : Nat → VP} (h : PIt X tg iter G M n Yp) (e : ∀ i, i < n → Yp i = Yp' i) : PIt X tg iter G M n Yp' :=
  PI.imp h fun t H R ⟨Hf, o, m, k⟩ => ⟨Hf, o, m, fun J Hf' H' F s m' f w => k J Hf' H' F s m' f (w.congr e)⟩
theorem vPr_at {K : PySem.W.Frag} {ps : List (Nat × RF)} {i : Nat} (h : i < ps.length) : atP (ps.map (vPr K)) i = vTu [vI (((pAt ps i).1 : Nat) : Int), vF K (pAt ps i).2] := by
  rw [atP_map (f := vPr K) (d := (0, 0)) (by rw [List.length_map]; exact h)]; rfl
theorem idx_lt {i j a b : Nat} (hi : i < a) (hj : j < b) : i * b + j < a * b := by
  have : (i + 1) * b ≤ a * b := Nat.mul_le_mul_right _ hi
  rw [Nat.add_mul, Nat.one_mul] at this
  omega
theorem small_mul (i k : Nat) (hi : i < 4294967296) (hk : k < 4294967296) : CMulX (i : Int) (k : Int) := mulx_ok (a := 32) (b := 32) (by rw [Int.natAbs_natCast]; omega) (by rw [Int.natAbs_natCast]; omega) (by decide)
theorem ad1_set {K : PySem.W.Frag} (L : List RF) (a : Nat) (x : RF) : (vFs K L).set a (vF K (L.getD a 0 + x)) = vFs K (ad1 L a x) := by
  unfold vFs ad1
  rw [List.map_set]
section
variable {P : Program} {w : World} {K : PySem.W.Frag} {mg : Str → Option Value} {base : Heap}
theorem change_of_product_c (V : Ev P K mg) (v F S : List RF) (h : OkCh v F S) : CalT P w K mg base 58 "change_of_product" [vLs (vFs K v), vLs (vFs K F), vLs (vFs K S)] [] (vLs (vFs K (chF v F S))) := by
  obtain ⟨fd, Fd⟩ := V.W.fd_change_of_product
  have nd := sc_change_of_product.nd
  have lv := h.lv
  have lf := h.lf
  have ls := h.ls
  have lv2 : v.length ≤ 10000 := by
    rw [lv]
    exact Nat.le_trans (Nat.mul_le_mul lf ls) (by decide)
  refine mk_cal (fn_V Fd sc_change_of_product rfl fun cdv A' outer s H E Q hr q => ?_) V.W.gl_change_of_product Fd.kp (b3 Fd)
  refine s_asg 3 (e_eq (e_blt (c_len rfl) rfl V.W.fr_len PySem.boot_len (a_cons (e_sqL (e_nm 2)) a_nil)) (by rw [vFs_len])) ?_ nd
  refine s_lcG 4 (own := [("c", 7)]) (vs := [7]) (n := v.length) (Zp := fun i => vF K (v.getD i 0).d) (pit_n (pi_seq (e_sqL (e_nm 0))) vFs_len) (by omega) nd (blk0 (by decide +kernel)) rfl (gow_name 7) (fun _ _ _ _ _ => pg_name (i := 7) nd rfl (Or.inl rfl)) (fun s2 H2 C cl fp i hi => ?_) (fun ad => ?_)
  · exact e_mth0 (ks := ["num", "den"]) (F_dC V (h.d i hi)) rfl (by decide) hr (by omega) (e_eq (e_nm 7) (vFs_at (by rw [vFs_len]; exact hi)))
  rw [range_vFs]
  refine s_for (I := Unit) (pit_n (p_range1 (i := ((F.length : Nat) : Int)) (e_eq (e_blt (c_len rfl) rfl V.W.fr_len PySem.boot_len (a_cons (e_sqL (e_nm 1)) a_nil)) (by rw [vFs_len])) (by omega) (by omega) rfl V.W.fr_range) (show _ = F.length by omega)) (pg_name (i := 5) nd rfl (Or.inl rfl)) (fun i G => G.set 5 (some (vI (0 + (i : Nat))))) (go_name 5) (fun _ _ => True) (fun _ _ => [some (vLs (vFs K v)), some (vLs (vFs K F)), some (vLs (vFs K S)), some (vI ((S.length : Nat) : Int)), some (vAt ad), none, none, none, none, none]) (fun i _ => [.l ad (vFs K (chK v F S i))]) () trivial ⟨rfl, rfl, rfl, rfl, rfl, trivial⟩ rfl (fun Hb i _ sm hi _ => ?_) (fun Hb _ sm _ => ?_) .never
  · have ei : (0 : Int) + (i : Nat) = ((i : Nat) : Int) := by omega
    rw [ei]
    refine s_for (I := Unit) (pit_n (p_range1 (i := ((S.length : Nat) : Int)) (e_nm 3) (by omega) (by omega) rfl V.W.fr_range) (show _ = S.length by omega)) (pg_name (i := 6) nd rfl (Or.inl rfl)) (fun i G => G.set 6 (some (vI (0 + (i : Nat))))) (go_name 6) (fun _ _ => True) (fun _ _ => [some (vLs (vFs K v)), some (vLs (vFs K F)), some (vLs (vFs K S)), some (vI ((S.length : Nat) : Int)), some (vAt ad), some (vI ((i : Nat) : Int)), none, none, none, none]) (fun j _ => [.l ad (vFs K (foldS (stJ v F S i) (chK v F S i) j))]) () trivial ⟨rfl, rfl, rfl, rfl, rfl, rfl, trivial⟩ rfl (fun Hb2 j _ sm2 hj _ => ?_) (fun Hb2 _ sm2 _ => ?_) .never
    · have ej : (0 : Int) + (j : Nat) = ((j : Nat) : Int) := by omega
      rw [ej]
      have hlt : i * S.length + j < v.length := by rw [lv]; exact idx_lt hi hj
      have o := h.j i hi j hj
      have hLl : (foldS (stJ v F S i) (chK v F S i) j).length = v.length := by rw [foldJ_len, chK_len]
      generalize hL : foldS (stJ v F S i) (chK v F S i) j = L at *
      have eidx : ∀ (a b : Nat), ((a : Nat) : Int) * ((S.length : Nat) : Int) + ((b : Nat) : Int) = ((a * S.length + b : Nat) : Int) := fun a b => by
        rw [Int.natCast_add, Int.natCast_mul]
      refine s_asg 7 (e_ix (i := i * S.length + j) (e_sqL (e_nm 0)) (e_eq (e_bin (e_bin (e_nm (P := vI ((i : Nat) : Int)) 5) (e_nm 3) (o_mul (small_mul i S.length (by omega) (by omega)))) (e_nm (P := vI ((j : Nat) : Int)) 6) o_add) (by rw [eidx])) (vFs_get hlt)) ?_ nd
      have ej2 : foldS (stJ v F S i) (chK v F S i) (j + 1) = stJ v F S i L j := by rw [← hL]; rfl
      rw [ej2]
      unfold OkJ at o
      generalize hc : v.getD (i * S.length + j) 0 = c at *
      refine s_if (k := !decide (c = 0)) (t_not (t_val (e_mth0 (ks := ["num", "den"]) (F_is_zero V c) rfl (by decide) hr (by omega) (e_nm (P := vF K c) 7)))) (fun hk => ?_) fun hk => ?_
      · have hc0 : c ≠ 0 := fun z => by rw [z] at hk; simp at hk
        obtain ⟨o1, o2⟩ := o hc0
        have r1 : ∀ t, t < (raF i F).length → (pAt (raF i F) t).1 * S.length + j < v.length := fun t ht => by
          have h1 : (pAt (raF i F) t).1 * S.length + j < L.length := (o1 t ht).1
          omega
        refine s_for (I := Unit) (pit_y (pit_n (pi_seq (e_sqL (e_call (raised_c V i F) hr (by omega) rfl (a_cons (e_nm (P := vI ((i : Nat) : Int)) 5) (a_cons (e_nm 1) a_nil))))) (List.length_map _)) (fun t ht => vPr_at ht)) (pg_tup rfl (pgs_cons (pg_name (i := 8) nd rfl (Or.inl rfl)) (pgs_cons (pg_name (i := 9) nd rfl (Or.inl rfl)) pgs_nil))) (fun t G => setN G [8, 9] [vI (((pAt (raF i F) t).1 : Nat) : Int), vF K (pAt (raF i F) t).2]) (go_tup [8, 9] (fun _ => rfl))
          (fun _ _ => True) (fun _ _ => [some (vLs (vFs K v)), some (vLs (vFs K F)), some (vLs (vFs K S)), some (vI ((S.length : Nat) : Int)), some (vAt ad), some (vI ((i : Nat) : Int)), some (vI ((j : Nat) : Int)), some (vF K c), none, none]) (fun t _ => [.l ad (vFs K (in1 c (fun k => k * S.length + j) (raF i F) L t))]) () trivial ⟨rfl, rfl, rfl, rfl, rfl, rfl, rfl, rfl, trivial⟩ rfl (fun Hb3 t _ sm3 ht _ => ?_) (fun Hb3 _ sm3 _ => ?_) .never
        · obtain ⟨a1, a2, a3⟩ := o1 t ht
          have hk1 := r1 t ht
          have hs1 : (pAt (raF i F) t).1 < 4294967296 := by
            have : (pAt (raF i F) t).1 ≤ (pAt (raF i F) t).1 * S.length := Nat.le_mul_of_pos_right _ (by omega)
            omega
          refine s_setL 0 (i := (pAt (raF i F) t).1 * S.length + j) rfl (e_bin (e_ixM 0 (i := (pAt (raF i F) t).1 * S.length + j) rfl (e_nm 4) (e_eq (e_bin (e_bin (e_nm (P := vI (((pAt (raF i F) t).1 : Nat) : Int)) 8) (e_nm 3) (o_mul (small_mul _ _ hs1 (by omega)))) (e_nm (P := vI ((j : Nat) : Int)) 6) o_add) (by rw [eidx])) (vFs_get (by rw [in1_len]; omega))) (e_bin (e_nm (P := vF K c) 7) (e_nm (P := vF K (pAt (raF i F) t).2) 9) (o_own (op := .Mult) (F_mulC V a2) V.W.m.sF hr (by omega))) (o_own (op := .Add) (F_addC V a3) V.W.m.sF hr (by omega))) (e_nm 4) (e_eq (e_bin (e_bin (e_nm (P := vI (((pAt (raF i F) t).1 : Nat) : Int)) 8) (e_nm 3) (o_mul (small_mul _ _ hs1 (by omega)))) (e_nm (P := vI ((j : Nat) : Int)) 6) o_add) (by rw [eidx])) (by rw [vFs_len, in1_len]; omega) ?_
          refine nx_ok () trivial rfl ⟨rfl, rfl, rfl, rfl, rfl, rfl, rfl, rfl, trivial⟩ ?_
          show [MT.l ad _] = [MT.l ad _]
          rw [ad1_set]; rfl
        have r2 : ∀ t, t < (raF j S).length → i * S.length + (pAt (raF j S) t).1 < v.length := fun t ht => by
          have h1 := (o2 t ht).1
          rw [in1_len] at h1
          have h2 : i * S.length + (pAt (raF j S) t).1 < L.length := h1
          omega
        refine s_for (I := Unit) (pit_y (pit_n (pi_seq (e_sqL (e_call (raised_c V j S) hr (by omega) rfl (a_cons (e_nm (P := vI ((j : Nat) : Int)) 6) (a_cons (e_nm 2) a_nil))))) (List.length_map _)) (fun t ht => vPr_at ht)) (pg_tup rfl (pgs_cons (pg_name (i := 8) nd rfl (Or.inl rfl)) (pgs_cons (pg_name (i := 9) nd rfl (Or.inl rfl)) pgs_nil))) (fun t G => setN G [8, 9] [vI (((pAt (raF j S) t).1 : Nat) : Int), vF K (pAt (raF j S) t).2]) (go_tup [8, 9] (fun _ => rfl))
          (fun _ _ => True) (fun _ _ => [some (vLs (vFs K v)), some (vLs (vFs K F)), some (vLs (vFs K S)), some (vI ((S.length : Nat) : Int)), some (vAt ad), some (vI ((i : Nat) : Int)), some (vI ((j : Nat) : Int)), some (vF K c), none, none]) (fun t _ => [.l ad (vFs K (in1 c (fun k => i * S.length + k) (raF j S) (in1 c (fun k => k * S.length + j) (raF i F) L (raF i F).length) t))]) () trivial ⟨rfl, rfl, rfl, rfl, rfl, rfl, rfl, rfl, trivial⟩ rfl (fun Hb4 t _ sm4 ht _ => ?_) (fun Hb4 _ sm4 _ => ?_) .never
        · obtain ⟨a1, a2, a3⟩ := o2 t ht
          have hk1 := r2 t ht
          refine s_setL 0 (i := i * S.length + (pAt (raF j S) t).1) rfl (e_bin (e_ixM 0 (i := i * S.length + (pAt (raF j S) t).1) rfl (e_nm 4) (e_eq (e_bin (e_bin (e_nm (P := vI ((i : Nat) : Int)) 5) (e_nm 3) (o_mul (small_mul i S.length (by omega) (by omega)))) (e_nm (P := vI (((pAt (raF j S) t).1 : Nat) : Int)) 8) o_add) (by rw [eidx])) (vFs_get (by rw [in1_len, in1_len]; omega))) (e_bin (e_nm (P := vF K c) 7) (e_nm (P := vF K (pAt (raF j S) t).2) 9) (o_own (op := .Mult) (F_mulC V a2) V.W.m.sF hr (by omega))) (o_own (op := .Add) (F_addC V a3) V.W.m.sF hr (by omega))) (e_nm 4) (e_eq (e_bin (e_bin (e_nm (P := vI ((i : Nat) : Int)) 5) (e_nm 3) (o_mul (small_mul i S.length (by omega) (by omega)))) (e_nm (P := vI (((pAt (raF j S) t).1 : Nat) : Int)) 8) o_add) (by rw [eidx])) (by rw [vFs_len, in1_len, in1_len]; omega) ?_
          refine nx_ok () trivial rfl ⟨rfl, rfl, rfl, rfl, rfl, rfl, rfl, rfl, trivial⟩ ?_
          show [MT.l ad _] = [MT.l ad _]
          rw [ad1_set]; rfl
        · refine s_end ?_ rfl
          refine nx_ok2 (sm3.trans sm4) () trivial rfl ⟨rfl, rfl, rfl, rfl, rfl, rfl, trivial⟩ ?_
          show [MT.l ad _] = [MT.l ad _]
          unfold stJ
          rw [hc, if_neg hc0]
      · have hc0 : c = 0 := by simpa using hk
        refine s_end ?_ rfl
        refine nx_ok () trivial rfl ⟨rfl, rfl, rfl, rfl, rfl, rfl, trivial⟩ ?_
        show [MT.l ad _] = [MT.l ad _]
        unfold stJ
        rw [hc, if_pos hc0]
    · exact nx_ok2 sm2 () trivial rfl ⟨rfl, rfl, rfl, rfl, rfl, trivial⟩ rfl
  · refine s_calm 4 rfl ?_
    exact s_retV (e_nm 4) rfl fun v H' s' pv => q v H' (sm.trans s') pv
end
end K31
set_option Elab.async false
set_option linter.all false
set_option maxRecDepth 100000
set_option maxHeartbeats 2000000
/-! W20: Relation. -/
namespace K31
open PySem PySem.Spec L2
abbrev Row := Nat × List RF × List RF
def vRow (K : PySem.W.Frag) (r : Row) : VP := vTu [vI ((r.1 : Nat) : Int), vLs (vFs K r.2.1), vLs (vFs K r.2.2)]
def fsL (w c : Nat) (ad : Addr) : List (Str × VP) := [("width", vI ((w : Nat) : Int)), ("count", vI ((c : Nat) : Int)), ("rows", vAt ad)]
abbrev mL (K : PySem.W.Frag) (ad y dx : Addr) (w c : Nat) (rs : List Row) : MCtx := [.l ad (rs.map (vRow K)), .i y dx (He.ga K "Relation") (fsL w c ad)]
noncomputable def wt0 (c : Nat) : List RF := (List.range c).map (fun _ => (0 : RF)) ++ [1]
theorem wt0_len (c : Nat) : (wt0 c).length = c + 1 := by unfold wt0; simp
noncomputable def wtJ (f : RF) (old wt : List RF) (j : Nat) : List RF := (List.range wt.length).map fun k => if k < j then wt.getD k 0 - f * old.getD k 0 else wt.getD k 0
theorem wtJ_len (f : RF) (old wt : List RF) (j : Nat) : (wtJ f old wt j).length = wt.length := by unfold wtJ; rw [List.length_map, List.length_range]
theorem wtJ_get (f : RF) (old wt : List RF) (j k : Nat) (hk : k < wt.length) : (wtJ f old wt j).getD k 0 = if k < j then wt.getD k 0 - f * old.getD k 0 else wt.getD k 0 := by
  unfold wtJ
  rw [List.getD_eq_getElem?_getD, List.getElem?_map, List.getElem?_range hk]; rfl
noncomputable def vcF (f : RF) (row v : List RF) : List RF := (List.range v.length).map fun k => v.getD k 0 - f * row.getD k 0
theorem vcF_len (f : RF) (row v : List RF) : (vcF f row v).length = v.length := by unfold vcF; rw [List.length_map, List.length_range]
noncomputable def rdS (s : List RF × List RF) (r : Row) : List RF × List RF := if s.1.getD r.1 0 = 0 then s else (vcF (s.1.getD r.1 0) r.2.1 s.1, wtJ (s.1.getD r.1 0) r.2.2 s.2 r.2.2.length)
noncomputable def rwAt (rs : List Row) (t : Nat) : Row := rs.getD t (0, [], [])
noncomputable def rdK (rs : List Row) (v : List RF) (c : Nat) (t : Nat) : List RF × List RF := foldS (fun s t => rdS s (rwAt rs t)) (v, wt0 c) t
structure OkRd (w : Nat) (s : List RF × List RF) (r : Row) : Prop where
  p : r.1 < w
  row : r.2.1.length = w
  old : r.2.2.length ≤ s.2.length
  v : s.1.getD r.1 0 ≠ 0 → ∀ k, k < w → Co2 (s.1.getD r.1 0) (r.2.1.getD k 0) ∧ Co2 (s.1.getD k 0) (s.1.getD r.1 0 * r.2.1.getD k 0)
  t : s.1.getD r.1 0 ≠ 0 → ∀ k, k < r.2.2.length → Co2 (s.1.getD r.1 0) (r.2.2.getD k 0) ∧ Co2 (s.2.getD k 0) (s.1.getD r.1 0 * r.2.2.getD k 0)
theorem rdK_len (rs : List Row) (v : List RF) (c : Nat) : ∀ t, (rdK rs v c t).1.length = v.length ∧ (rdK rs v c t).2.length = c + 1
  | 0 => ⟨rfl, wt0_len c⟩
  | t + 1 => by
    obtain ⟨h1, h2⟩ := rdK_len rs v c t
    show (rdS (rdK rs v c t) _).1.length = _ ∧ (rdS (rdK rs v c t) _).2.length = _
    unfold rdS
    split
    · exact ⟨h1, h2⟩
    · exact ⟨by rw [vcF_len, h1], by rw [wtJ_len, h2]⟩
structure OkIns (w c : Nat) (rs : List Row) (v : List RF) : Prop where
  lv : v.length = w
  lw : w ≤ 1000
  lc : c ≤ 1000
  lr : rs.length ≤ 1000
  r : ∀ t, t < rs.length → OkRd w (rdK rs v c t) (rwAt rs t)
theorem n_eq {X : Cx} {e : Expr} {G : Ctx} {M : MCtx} {Ps Qs : List VP} (h : TyN X e G M Ps) (e' : Ps = Qs) : TyN X e G M Qs := e' ▸ h
section
variable {P : Program} {w : World} {K : PySem.W.Frag} {mg : Str → Option Value} {base : Heap}
theorem L_mk (V : Ev P K mg) (n : Nat) : MakJ P w K mg base 3 "Relation" (He.ga K "Relation") [vI ((n : Nat) : Int)] (fun ad => fsL n 0 ad) := by
  obtain ⟨fd, F⟩ := V.W.fd_L_init
  have nd := sc_L_init.nd
  refine ⟨_, fd, _, V.W.mk_L, fn_J F sc_L_init rfl fun cdv A outer s H H0 E Q y dx hr q => ?_, V.W.gc_Relation, b2 F⟩
  refine s_fld 0 rfl (e_nm 0) (e_nm (P := vI ((n : Nat) : Int)) 1) V.W.cl_L V.W.na_L_width (show (0 : Nat) < 1000 by decide) ?_
  refine s_fld 0 rfl (e_nm 0) (e_int (i := 0)) V.W.cl_L V.W.na_L_count (show (1 : Nat) < 1000 by decide) ?_
  refine s_fldN 0 rfl (fun m => e_nm 0) (n_lst a_nil (show (0 : Nat) ≤ 100 by decide)) V.W.cl_L V.W.na_L_rows (show (2 : Nat) < 1000 by decide) fun ad => ?_
  exact s_nil fun t Hf H1 s1 o m => q ad Hf H1 s1 m
theorem insert_fn (V : Ev P K mg) {ad y dx : Addr} {wd c : Nat} {rs : List Row} {v : List RF} (h : OkIns wd c rs v) {M' : MCtx} {R : VP}
    (hend : ∀ (cdv : Value) (A : Around) (outer : List Env) (s : Shared) (H Hf : Hp) (E : XK) (Q : VK), Room 60 (A.deeper (PyProof.Rows.envOfC "Relation.insert" (defScope st_L_insert) s.heap.objs.size (He.fAd K ("Relation", some "insert")) cdv)) → (∀ v Hf' H', Same Hf Hf' → OkM M' Hf' H' → R.p v Hf' → Q v H') →
      SOk (cx0 P w K mg base N_L_insert "Relation.insert" (defScope st_L_insert) (He.fAd K ("Relation", some "insert")) cdv A outer s H E) ((defBody st_L_insert).drop 4) Hf
        [some (vAt y), some (vLs (vFs K (rdK rs v c rs.length).1)), some (vLs (vFs K (rdK rs v c rs.length).2)), none, none, none, none, none, none, none, none] (mL K ad y dx wd (c + 1) rs) { nx := fun _ H' => Q .non H', rt := Q }) :
    MetM P w K mg base 61 (He.ga K "Relation") "insert" (mL K ad y dx wd c rs) [vAt y, vLs (vFs K v)] M' R := by
  obtain ⟨fd, F⟩ := V.W.fd_L_insert
  have nd := sc_L_insert.nd
  have lw := h.lw
  have lc := h.lc
  have lv := h.lv
  refine ⟨_, fd, _, V.W.cl_L, V.W.me_L_insert, fn_M F sc_L_insert rfl fun cdv A outer s H Hf E Q hr q => ?_, b2 F⟩
  refine s_asg 1 (e_bty c_list rfl V.W.fr_list PyProof.Rows.boot_list (a_cons (e_sqL (e_nm (P := vLs (vFs K v)) 1)) a_nil)) ?_ nd
  refine s_asgN 2 (n_cat (e_eq (TyN.ty (n_lcG (own := [("_", 9)]) (vs := [9]) (n := c) (Zp := fun _ => vF K 0) (pit_n (p_range1 (i := ((c : Nat) : Int)) (e_fldM 1 rfl (e_nm (P := vAt y) 0) V.W.cl_L V.W.na_L_count rfl) (by omega) (by omega) rfl V.W.fr_range) (show _ = c by omega)) (by omega) nd (blk0 (by decide +kernel)) rfl (gow_name 9) (fun _ _ _ _ _ => pg_name (i := 9) nd rfl (Or.inl rfl)) (fun s2 H2 C cl fp i hi => of_zero V ⟨rfl, rfl, rfl, rfl, rfl⟩ hr (by omega) (by rfl) (by rfl)))) (show _ = vLs (vFs K ((List.range c).map fun _ => (0 : RF))) by rw [range_vFs])) (e_lst (Ps := vFs K [1]) (a_cons (of_one V ⟨rfl, rfl, rfl, rfl, rfl⟩ hr (by omega) (by rfl) (by rfl)) a_nil) (show (1 : Nat) ≤ 100 by decide)) (by rw [vFs_len, vFs_len, List.length_map, List.length_range]; show c + 1 ≤ _; omega)) (fun ad2 => ?_) nd
  have ew : vFs K ((List.range c).map fun _ => (0 : RF)) ++ vFs K [1] = vFs K (wt0 c) := by unfold wt0; rw [vFs_app]
  rw [ew]
  refine s_fld 2 (fs := fsL wd c ad) rfl (e_nm 0) (e_eq (e_bin (e_fldM 2 (fs := fsL wd c ad) rfl (e_nm (P := vAt y) 0) V.W.cl_L V.W.na_L_count rfl) (e_int (i := 1)) o_add) (show vI (((c : Nat) : Int) + 1) = vI ((c + 1 : Nat) : Int) by congr 1)) V.W.cl_L V.W.na_L_count (show (3 : Nat) < 1000 by decide) ?_
  refine s_forM 1 (ad := ad) (Ps := rs.map (vRow K)) (n := rs.length) (I := Unit) (pi_mut 1 (e_fldM 2 (fs := fsL wd (c + 1) ad) rfl (e_nm (P := vAt y) 0) V.W.cl_L V.W.na_L_rows rfl) rfl) (List.length_map _) (pg_tup rfl (pgs_cons (pg_name (i := 3) nd rfl (Or.inl rfl)) (pgs_cons (pg_name (i := 4) nd rfl (Or.inr rfl)) (pgs_cons (pg_name (i := 5) nd rfl (Or.inl rfl)) pgs_nil)))) (fun t G => setN G [3, 4, 5] [vI (((rwAt rs t).1 : Nat) : Int), vLs (vFs K (rwAt rs t).2.1), vLs (vFs K (rwAt rs t).2.2)])
    (fun i G x t Hf H Q hi px o s q => go_tup (n := rs.length) (Yps := fun t => [vI (((rwAt rs t).1 : Nat) : Int), vLs (vFs K (rwAt rs t).2.1), vLs (vFs K (rwAt rs t).2.2)]) [3, 4, 5] (fun _ => rfl) i G x t Hf H Q hi (by rw [atP_map (f := vRow K) (d := (0, [], [])) (by rw [List.length_map]; exact hi)] at px; exact px) o s q)
    (fun _ _ => True) (fun t _ => [some (vAt y), some (vLs (vFs K (rdK rs v c t).1)), some (vAt ad2), none, none, none, none, none, none, none, none]) (fun t _ => .l ad2 (vFs K (rdK rs v c t).2) :: mL K ad y dx wd (c + 1) rs) (fun _ _ => rfl) () trivial ⟨rfl, rfl, rfl, trivial⟩ rfl (fun Hb t _ sm ht _ => ?_) (fun Hb _ sm _ => ?_) .never
  · have o := h.r t ht
    obtain ⟨l1, l2⟩ := rdK_len rs v c t
    have ek : rdK rs v c (t + 1) = rdS (rdK rs v c t) (rwAt rs t) := rfl
    rw [ek]
    generalize hst : rdK rs v c t = st at *
    obtain ⟨vv, wt⟩ := st
    generalize hrw : rwAt rs t = rr at *
    obtain ⟨p, row, old⟩ := rr
    have l1 : vv.length = v.length := l1
    have l2 : wt.length = c + 1 := l2
    have op : p < wd := o.p
    have orow : row.length = wd := o.row
    have oold : old.length ≤ wt.length := o.old
    refine s_asg 6 (e_ix (i := p) (e_sqL (e_nm (P := vLs (vFs K vv)) 1)) (e_nm (P := vI ((p : Nat) : Int)) 3) (vFs_get (by omega))) ?_ nd
    have ov : vv.getD p 0 ≠ 0 → ∀ k, k < wd → Co2 (vv.getD p 0) (row.getD k 0) ∧ Co2 (vv.getD k 0) (vv.getD p 0 * row.getD k 0) := o.v
    have ot : vv.getD p 0 ≠ 0 → ∀ k, k < old.length → Co2 (vv.getD p 0) (old.getD k 0) ∧ Co2 (wt.getD k 0) (vv.getD p 0 * old.getD k 0) := o.t
    have erd : rdS (vv, wt) (p, row, old) = if vv.getD p 0 = 0 then (vv, wt) else (vcF (vv.getD p 0) row vv, wtJ (vv.getD p 0) old wt old.length) := rfl
    rw [erd]
    generalize vv.getD p 0 = f at *
    refine s_if (k := !decide (f = 0)) (t_not (t_val (e_mth0 (ks := ["num", "den"]) (F_is_zero V f) rfl (by decide) hr (by omega) (e_nm (P := vF K f) 6)))) (fun hk => ?_) fun hk => ?_
    · have hf : f ≠ 0 := fun z => by rw [z] at hk; simp at hk
      rw [if_neg hf]
      refine s_asgNC 1 (Ps := vFs K (vcF f row vv)) (n_eq (n_lcG (own := [("k", 7)]) (vs := [7]) (n := wd) (Zp := fun k => vF K (vv.getD k 0 - f * row.getD k 0)) (pit_n (p_range1 (i := ((wd : Nat) : Int)) (e_fldM 2 (fs := fsL wd (c + 1) ad) rfl (e_nm (P := vAt y) 0) V.W.cl_L V.W.na_L_width rfl) (by omega) (by omega) rfl V.W.fr_range) (show _ = wd by omega)) (by omega) nd (blk0 (by decide +kernel)) rfl (gow_name 7) (fun _ _ _ _ _ => pg_name (i := 7) nd rfl (Or.inl rfl)) (fun s2 H2 C cl fp i hi => ?_)) ?_) ?_ nd
      · have hz : vI (0 + ((i : Nat) : Int)) = vI ((i : Nat) : Int) := by congr 1; omega
        exact e_bin (e_ix (i := i) (e_sqL (e_nm (P := vLs (vFs K vv)) 1)) (e_eq (e_nm (P := vI (0 + ((i : Nat) : Int))) 7) hz) (vFs_get (by omega))) (e_bin (e_nm (P := vF K f) 6) (e_ix (i := i) (e_sqL (e_nm (P := vLs (vFs K row)) 4)) (e_eq (e_nm (P := vI (0 + ((i : Nat) : Int))) 7) hz) (vFs_get (by omega))) (o_own (op := .Mult) (F_mulC V (ov hf i hi).1) V.W.m.sF hr (by omega))) (o_own (op := .Sub) (F_subC V (ov hf i hi).2) V.W.m.sF hr (by omega))
      · rw [range_vFs]
        unfold vcF
        rw [l1, lv]
      · refine s_for (I := Unit) (pit_n (p_range1 (i := ((old.length : Nat) : Int)) (e_eq (e_blt (c_len rfl) rfl V.W.fr_len PySem.boot_len (a_cons (e_sqL (e_nm (P := vLs (vFs K old)) 5)) a_nil)) (by rw [vFs_len])) (by omega) (by omega) rfl V.W.fr_range) (show _ = old.length by omega)) (pg_name (i := 7) nd rfl (Or.inl rfl)) (fun i G => G.set 7 (some (vI (0 + (i : Nat))))) (go_name 7) (fun _ _ => True) (fun _ _ => [some (vAt y), some (vLs (vFs K (vcF f row vv))), some (vAt ad2), none, none, some (vLs (vFs K old)), some (vF K f), none, none, none, none]) (fun j _ => .l ad2 (vFs K (wtJ f old wt j)) :: mL K ad y dx wd (c + 1) rs) () trivial ⟨rfl, rfl, rfl, rfl, rfl, trivial⟩ (by
            have : wtJ f old wt 0 = wt := by
              unfold wtJ
              apply List.ext_getElem?
              intro k
              rw [List.getElem?_map]
              by_cases hk : k < wt.length
              · rw [List.getElem?_range hk, List.getElem?_eq_getElem hk]
                show some (if k < 0 then _ else wt.getD k 0) = _
                rw [if_neg (by omega), List.getD_eq_getElem?_getD, List.getElem?_eq_getElem hk]; rfl
              · rw [List.getElem?_eq_none (by rw [List.length_range]; omega), List.getElem?_eq_none (by omega)]; rfl
            rw [this]) (fun Hb2 j _ sm2 hj _ => ?_) (fun Hb2 _ sm2 _ => ?_) .never
        · have ej : (0 : Int) + (j : Nat) = ((j : Nat) : Int) := by omega
          rw [ej]
          have hjw : j < wt.length := by omega
          have hv : (wtJ f old wt j).getD j 0 = wt.getD j 0 := by rw [wtJ_get f old wt j j hjw, if_neg (by omega)]
          refine s_setL 0 (i := j) rfl (e_bin (e_ixM 0 (i := j) rfl (e_nm 2) (e_nm (P := vI ((j : Nat) : Int)) 7) (vFs_get (by rw [wtJ_len]; exact hjw))) (e_bin (e_nm (P := vF K f) 6) (e_ix (i := j) (e_sqL (e_nm (P := vLs (vFs K old)) 5)) (e_nm (P := vI ((j : Nat) : Int)) 7) (vFs_get hj)) (o_own (op := .Mult) (F_mulC V (ot hf j hj).1) V.W.m.sF hr (by omega))) (o_own (op := .Sub) (F_subC V (by rw [hv]; exact (ot hf j hj).2)) V.W.m.sF hr (by omega))) (e_nm 2) (e_nm (P := vI ((j : Nat) : Int)) 7) (by rw [vFs_len, wtJ_len]; exact hjw) ?_
          refine nx_ok () trivial rfl ⟨rfl, rfl, rfl, rfl, rfl, trivial⟩ ?_
          show MT.l ad2 _ :: _ = MT.l ad2 _ :: _
          rw [frow_set (m := wtJ f old wt (j + 1)) (by rw [wtJ_len, wtJ_len]) fun k hk => ?_]
          rw [wtJ_len] at hk
          rw [wtJ_get f old wt (j + 1) k hk, wtJ_get f old wt j k hk, hv]
          by_cases e : k = j
          · subst e; rw [if_pos (by omega), if_pos rfl]
          · rw [if_neg e]
            by_cases e2 : k < j
            · rw [if_pos e2, if_pos (by omega)]
            · rw [if_neg e2, if_neg (by omega)]
        · refine s_end ?_ rfl
          exact nx_ok2 sm2 () trivial rfl ⟨rfl, rfl, rfl, trivial⟩ rfl
    · have hf : f = 0 := by simpa using hk
      rw [if_pos hf]
      refine s_end ?_ rfl
      exact nx_ok () trivial rfl ⟨rfl, rfl, rfl, trivial⟩ rfl
  · refine s_calm 2 rfl ?_
    exact (hend cdv A outer s H Hb E Q hr fun v Hf' H' s' => q v Hf' H' (sm.trans s')).weak ⟨rfl, rfl, rfl, trivial⟩
end
end K31
set_option Elab.async false
set_option linter.all false
set_option maxRecDepth 100000
set_option maxHeartbeats 2000000
/-! W21: Relation.insert's two ends. -/
namespace K31
open PySem PySem.Spec L2
structure OkSome (v wt : List RF) (k0 : Nat) : Prop where
  k : k0 < v.length
  nz : v.getD k0 0 ≠ 0
  z : ∀ k, k < k0 → v.getD k 0 = 0
  c : Co 50 (v.getD k0 0)
  s1 : OkSc (v.getD k0 0)⁻¹ v
  s2 : OkSc (v.getD k0 0)⁻¹ wt
structure OkMon (A : List RF) : Prop where
  ne : A ≠ []
  l0 : leadF A ≠ 0
  c : Co 50 (leadF A)
  s : OkSc (leadF A)⁻¹ A
  l : A.length ≤ 1000
noncomputable def monF (A : List RF) : List RF := trimF (scF (leadF A)⁻¹ A)
noncomputable def newRow (v wt : List RF) (k0 : Nat) : Row := (k0, scF (v.getD k0 0)⁻¹ v, scF (v.getD k0 0)⁻¹ wt)
section
variable {P : Program} {w : World} {K : PySem.W.Frag} {mg : Str → Option Value} {base : Heap}
theorem O_monicM (V : Ev P K mg) (A : List RF) (h : OkMon A) : MetT P w K mg base 58 (He.ga K "Operator") "monic" [vO K A] [] (vO K (monF A)) := O_monic V A h.ne h.l0 h.c h.s h.l
theorem insert_some (V : Ev P K mg) {ad y dx : Addr} {wd c : Nat} {rs : List Row} {v : List RF} (h : OkIns wd c rs v) (k0 : Nat) (o : OkSome (rdK rs v c rs.length).1 (rdK rs v c rs.length).2 k0) :
    MetM P w K mg base 61 (He.ga K "Relation") "insert" (mL K ad y dx wd c rs) [vAt y, vLs (vFs K v)] (mL K ad y dx wd (c + 1) (rs ++ [newRow (rdK rs v c rs.length).1 (rdK rs v c rs.length).2 k0])) vN := by
  have nd := sc_L_insert.nd
  obtain ⟨l1, l2⟩ := rdK_len rs v c rs.length
  have lw := h.lw
  have lc := h.lc
  have lv := h.lv
  have lr := h.lr
  have ok := o.k
  refine insert_fn V h fun cdv A outer s H Hf E Q hr q => ?_
  generalize (rdK rs v c rs.length).1 = vv at *
  generalize (rdK rs v c rs.length).2 = wt at *
  refine s_for (I := Unit) (pit_n (p_range1 (i := ((wd : Nat) : Int)) (e_fldM 1 (fs := fsL wd (c + 1) ad) rfl (e_nm (P := vAt y) 0) V.W.cl_L V.W.na_L_width rfl) (by omega) (by omega) rfl V.W.fr_range) (show _ = wd by omega)) (pg_name (i := 7) nd rfl (Or.inl rfl)) (fun i G => G.set 7 (some (vI (0 + (i : Nat))))) (go_name 7) (fun k _ => k ≤ k0) (fun _ _ => [some (vAt y), some (vLs (vFs K vv)), some (vLs (vFs K wt)), none, none, none, none, none, none, none, none]) (fun _ _ => mL K ad y dx wd (c + 1) rs) () (Nat.zero_le _) ⟨rfl, rfl, rfl, trivial⟩ rfl (fun Hb k _ sm hk hk0 => ?_) (fun Hb _ sm hk0 => ?_) .never
  · have ek : (0 : Int) + (k : Nat) = ((k : Nat) : Int) := by omega
    rw [ek]
    refine s_if (k := !decide (vv.getD k 0 = 0)) (t_not (t_val (e_mth0 (ks := ["num", "den"]) (F_is_zero V (vv.getD k 0)) rfl (by decide) hr (by omega) (e_ix (i := k) (e_sqL (e_nm (P := vLs (vFs K vv)) 1)) (e_nm (P := vI ((k : Nat) : Int)) 7) (vFs_get (by omega)))))) (fun hz => ?_) fun hz => ?_
    · have hnz : vv.getD k 0 ≠ 0 := fun z => by rw [z] at hz; simp at hz
      have e : k = k0 := by
        rcases Nat.lt_or_ge k k0 with z | z
        · exact absurd (o.z k z) hnz
        · omega
      subst e
      refine s_asg 8 (e_mth0 (ks := ["num", "den"]) (F_invC V o.c o.nz) rfl (by decide) hr (by omega) (e_ix (i := k) (e_sqL (e_nm (P := vLs (vFs K vv)) 1)) (e_nm (P := vI ((k : Nat) : Int)) 7) (vFs_get (by omega)))) ?_ nd
      refine s_app 0 (P := vRow K (newRow vv wt k)) rfl (e_fldM 1 (fs := fsL wd (c + 1) ad) rfl (e_nm (P := vAt y) 0) V.W.cl_L V.W.na_L_rows rfl) (e_tup (Ps := [vI ((k : Nat) : Int), vLs (vFs K (scF (vv.getD k 0)⁻¹ vv)), vLs (vFs K (scF (vv.getD k 0)⁻¹ wt))]) (a_cons ?_ (a_cons ?_ (a_cons ?_ a_nil))) (show (3 : Nat) ≤ 100 by decide)) (by rw [List.length_map]; omega) ?_
      · exact e_nm (P := vI ((k : Nat) : Int)) 7
      · refine e_eq (TyN.ty (n_lcG (own := [("c", 10)]) (vs := [10]) (Zp := fun i => vF K ((vv.getD k 0)⁻¹ * vv.getD i 0)) (pi_seq (e_sqL (e_nm (P := vLs (vFs K vv)) 1))) (by rw [vFs_len]; omega) nd (blk0 (by decide +kernel)) rfl (gow_name 10) (fun _ _ _ _ _ => pg_name (i := 10) nd rfl (Or.inl rfl)) (fun s2 H2 C cl fp i hi => ?_))) ?_
        · have hi2 : i < vv.length := by rw [vFs_len] at hi; exact hi
          exact e_bin (e_nm (P := vF K (vv.getD k 0)⁻¹) 8) (e_eq (e_nm 10) (vFs_at hi)) (o_own (op := .Mult) (F_mulC V (o.s1 i hi2)) V.W.m.sF hr (by omega))
        · rw [vFs_len, range_vFs]; rfl
      · refine e_eq (TyN.ty (n_lcG (own := [("c", 10)]) (vs := [10]) (Zp := fun i => vF K ((vv.getD k 0)⁻¹ * wt.getD i 0)) (pi_seq (e_sqL (e_nm (P := vLs (vFs K wt)) 2))) (by rw [vFs_len]; omega) nd (blk0 (by decide +kernel)) rfl (gow_name 10) (fun _ _ _ _ _ => pg_name (i := 10) nd rfl (Or.inl rfl)) (fun s2 H2 C cl fp i hi => ?_))) ?_
        · have hi2 : i < wt.length := by rw [vFs_len] at hi; exact hi
          exact e_bin (e_nm (P := vF K (vv.getD k 0)⁻¹) 8) (e_eq (e_nm 10) (vFs_at hi)) (o_own (op := .Mult) (F_mulC V (o.s2 i hi2)) V.W.m.sF hr (by omega))
        · rw [vFs_len, range_vFs]; rfl
      · have em : (mL K ad y dx wd (c + 1) rs).set 0 (.l ad (rs.map (vRow K) ++ [vRow K (newRow vv wt k)])) = mL K ad y dx wd (c + 1) (rs ++ [newRow vv wt k]) := by
          show [MT.l ad _, _] = [MT.l ad _, _]
          rw [List.map_append]; rfl
        rw [em]
        exact s_retM (R := vN) e_non rfl fun v Hf' H' s' => q v Hf' H' (sm.trans s')
    · have hz0 : vv.getD k 0 = 0 := by simpa using hz
      have hne : k ≠ k0 := fun e => by rw [e] at hz0; exact o.nz hz0
      refine s_end ?_ rfl
      exact nx_ok () (show k + 1 ≤ k0 by omega) rfl ⟨rfl, rfl, rfl, trivial⟩ rfl
  · omega
theorem insert_none (V : Ev P K mg) {ad y dx : Addr} {wd c : Nat} {rs : List Row} {v : List RF} (h : OkIns wd c rs v) (hz : ∀ k, k < wd → (rdK rs v c rs.length).1.getD k 0 = 0) (o : OkMon (trimF (rdK rs v c rs.length).2)) :
    MetM P w K mg base 61 (He.ga K "Relation") "insert" (mL K ad y dx wd c rs) [vAt y, vLs (vFs K v)] (mL K ad y dx wd (c + 1) rs) (vO K (monF (trimF (rdK rs v c rs.length).2))) := by
  have nd := sc_L_insert.nd
  obtain ⟨l1, l2⟩ := rdK_len rs v c rs.length
  have lw := h.lw
  have lv := h.lv
  refine insert_fn V h fun cdv A outer s H Hf E Q hr q => ?_
  generalize (rdK rs v c rs.length).1 = vv at *
  generalize (rdK rs v c rs.length).2 = wt at *
  refine s_for (I := Unit) (pit_n (p_range1 (i := ((wd : Nat) : Int)) (e_fldM 1 (fs := fsL wd (c + 1) ad) rfl (e_nm (P := vAt y) 0) V.W.cl_L V.W.na_L_width rfl) (by omega) (by omega) rfl V.W.fr_range) (show _ = wd by omega)) (pg_name (i := 7) nd rfl (Or.inl rfl)) (fun i G => G.set 7 (some (vI (0 + (i : Nat))))) (go_name 7) (fun _ _ => True) (fun _ _ => [some (vAt y), some (vLs (vFs K vv)), some (vLs (vFs K wt)), none, none, none, none, none, none, none, none]) (fun _ _ => mL K ad y dx wd (c + 1) rs) () trivial ⟨rfl, rfl, rfl, trivial⟩ rfl (fun Hb k _ sm hk _ => ?_) (fun Hb _ sm _ => ?_) .never
  · have ek : (0 : Int) + (k : Nat) = ((k : Nat) : Int) := by omega
    rw [ek]
    refine s_ifR (k := false) (t_eq (t_not (t_val (e_mth0 (ks := ["num", "den"]) (F_is_zero V (vv.getD k 0)) rfl (by decide) hr (by omega) (e_ix (i := k) (e_sqL (e_nm (P := vLs (vFs K vv)) 1)) (e_nm (P := vI ((k : Nat) : Int)) 7) (vFs_get (by omega)))))) (by rw [decide_eq_true (hz k hk)]; rfl)) (fun z => absurd z Bool.false_ne_true) fun _ => ?_
    exact nx_ok () trivial rfl ⟨rfl, rfl, rfl, trivial⟩ rfl
  · refine s_retM (R := vO K (monF (trimF wt))) (e_mth0 (ks := ["coefficients"]) (O_monicM V (trimF wt) o) rfl (by decide) hr (by omega) (e_mk (O_mk V wt) hr (by omega) rfl (a_cons (e_sqL (e_nm (P := vLs (vFs K wt)) 2)) a_nil))) rfl fun v Hf' H' s' => q v Hf' H' (sm.trans s')
end
end K31
set_option Elab.async false
set_option linter.all false
set_option maxRecDepth 100000
set_option maxHeartbeats 2000000
/-! T11: a def of *v, called by positional values. -/
namespace K31
open PySem PySem.Spec L2
structure CalR (P : Program) (w : World) (K : PySem.W.Frag) (mg : Str → Option Value) (base : Heap) (k : Nat) (x : Str) (Ps : List VP) (R : VP) : Prop where
  ex : ∃ f : Addr, FnR P w K mg base CX0 k f (spV Ps R) ∧ mg x = some (.ref f) ∧ PySem.W.keepIn K (.ref f) = true
theorem spV_nil {Ps : List VP} {R : VP} {vs : List V} {H : Hp} {Q : VK} {E : XK} (h : spV Ps R vs H Q E) : spV Ps R (vs ++ []) H Q E := by
  rw [List.append_nil]
  exact h
section
variable {X : Cx} {CX : CXT} {k j : Nat} {f : Addr} {sp : Sp} {E : XK} {x : Str} {p pos : Pos} {e : Expr} {es : List Expr} {t : TA} {G : Ctx} {M : MCtx} {Ps : List VP} {R : VP}
theorem pe_callR (F : FnR X.prog X.w X.K X.mg X.base CX k f sp) (hr : Room k X.A) (hg : Gl X x) (hm : X.mg x = some (.ref f)) (hk : PySem.W.keepIn X.K (.ref f) = true) (hx : Passes CX X E)
    (ha : PA X (e :: es) t) (hdb : (x == ("__debug__" : Str)) = false := by decide) (he : starEach (e :: es) X.env = (false, eval e X.env) :: starEach es X.env := by rfl) (hpl : (backTo pos (starEach es X.env)).any (·.1) = false := by rfl) :
    PE X (.Call (.Name x p) (e :: es) [] pos) (tCall sp [] E t) := by
  refine ⟨fun pins s σ H Q I h => ?_⟩
  refine wpAny_Call_Name_kw (ld_glob I hg hm ?_ hdb)
  refine PySem.W.callWith_K (h₀ := X.base) I.ok.mod.kin hk (thn (ha.run pos pins s σ H _ I h) fun us s1 ⟨vs, H1, I1, r, q⟩ => ⟨I1.kIn, ?_⟩) he hpl
  have q2 : sp vs H1 Q E := by
    have q3 : sp (vs ++ []) H1 Q E := q
    rw [List.append_nil vs] at q3
    exact q3
  refine wpAny_call (codeAny_mono (run_fnR F hr hx I1 r q2) fun r s' hq => ?_)
  cases r with
  | error e => exact hq
  | ok fl => cases fl <;> exact hq
theorem e_callR (c : CalR X.prog X.w X.K X.mg X.base k x Ps R) (hr : Room j X.A) (hk : k ≤ j) (hg : Gl X x) (ha : TyA X (e :: es) G [] Ps)
    (hdb : (x == ("__debug__" : Str)) = false := by decide) (he : starEach (e :: es) X.env = (false, eval e X.env) :: starEach es X.env := by rfl) (hpl : (backTo pos (starEach es X.env)).any (·.1) = false := by rfl) :
    TyE X (.Call (.Name x p) (e :: es) [] pos) G M R := by
  obtain ⟨f, F, hm, kp⟩ := c.ex
  refine TyE.frame (PE.imp (pe_callR F (hr.mono hk) hg hm kp pass0 ha hdb he hpl) fun t H Q ⟨Hf, ok, m, q⟩ => ⟨Hf, ok, m, fun vs Hf' H' s m' its => ?_⟩)
  have e := m'.nil
  subst e
  exact spV_nil ⟨its, fun v H2 s2 r => q v H2 H2 (s.trans s2) (okm_nil _) r⟩
end
section
variable {P : Program} {w : World} {K : PySem.W.Frag} {mg : Str → Option Value} {base : Heap} {x qual : Str} {params : Arguments} {body : List Stmt} {scope : Scope} {dvs : List V} {kws : List (Str × V)} {f : Addr} {fd : FuncData} {N : List Str} {k : Nat} {Ps : List VP} {R : VP} {pv : Str}
theorem fn_R (F : FunD K x qual params body scope [] [] f fd) (S : FnScope N [pv] scope) (hl : Ps.length ≤ 100)
    (hbd : ∀ (kV doc pm : Value) (an : Option Addr) (cdv ct : Value) (rest : List Value), bindArgs (PySem.W.fnOf x qual params body scope .none kV doc pm an cdv ct) ⟨rest, []⟩ = (newTuple rest >>= fun t => pure [(pv, t)]))
    (hb : ∀ (cdv : Value) (A : Around) (outer : List Env) (s : Shared) (H : Hp) (E : XK) (Q : VK), Room k (A.deeper (PyProof.Rows.envOfC qual scope s.heap.objs.size f cdv)) → (∀ v H', Same H H' → R.p v H' → Q v H') →
      SOk (cx0 P w K mg base N qual scope f cdv A outer s H E) body H (startC N.length [vTu Ps]) [] { nx := fun _ H' => Q .non H', rt := Q }) : FnR P w K mg base CX0 (k + 1) f (spV Ps R) := by
  obtain ⟨oc, od, dV, kV, doc, pm, an, cdv, ct, osl, rfl, lk, hcd, hD, _⟩ := F.ex
  obtain ⟨_, rfl⟩ | ⟨e, _⟩ := hD
  rotate_left
  · exact absurd rfl e
  refine FnR.imp (StX.fn_star (sp := spV [vTu Ps] R) (ps := []) lk hcd S (fun _ _ _ _ _ _ _ _ _ _ _ z => z) (fun us rest hu => ?_) fun A outer s H vs Q E hr h => ⟨_, PSs.nox go_pss, hb cdv A outer s H E Q hr h.2 _ H H (Same.refl H) (okS_start h.1) (okm_nil H)⟩) fun vs H Q E ⟨its, q⟩ => ⟨[], vs, rfl, rfl, by rw [its.len]; exact Nat.le_trans hl (by decide), fun p hp => ⟨⟨⟨p, vs, rfl, upd_same, its.mono (same_upd hp)⟩, trivial⟩, fun v H' s r => q v H' ((same_upd hp).trans s) r⟩⟩
  cases us with
  | nil => exact hbd kV doc pm an cdv ct rest
  | cons _ _ => exact absurd hu (by simp)
end
end K31
set_option Elab.async false
set_option linter.all false
set_option maxRecDepth 100000
set_option maxHeartbeats 2000000
/-! W22: check, of_sum, of_image, of_product. -/
namespace K31
open PySem PySem.Spec L2
section
variable {X : Cx} {G : Ctx} {M : MCtx}
theorem o_isNN : OpT X (compareOp .Is) vN vN (vB true) := opT_of op_isN fun x y H e e' Q q => by
  have e : x = .non := e
  have e' : y = .non := e'
  subst e e'
  exact ⟨rfl, q _ H (Same.refl H) rfl⟩
theorem o_isNI {C : Addr} {fs : List (Str × VP)} : OpT X (compareOp .Is) (vIn C fs) vN (vB false) := opT_of op_isN fun x y H e e' Q q => by
  obtain ⟨a, dx, gs, rfl, _⟩ := e
  have e' : y = .non := e'
  subst e'
  exact ⟨rfl, q _ H (Same.refl H) rfl⟩
end
section
variable {P : Program} {w : World} {K : PySem.W.Frag} {mg : Str → Option Value} {base : Heap}
theorem check_r (V : Ev P K mg) (As : List (List RF)) (hl : As.length ≤ 100) (h0 : ∀ A ∈ As, A ≠ []) : CalR P w K mg base 3 "check" (As.map (vO K)) vN := by
  obtain ⟨fd, F⟩ := V.W.fd_check
  have nd := sc_check.nd
  refine ⟨_, fn_R F sc_check (by rw [List.length_map]; exact hl) (fun kV doc pm an cdv ct rest => by cases rest <;> rfl) fun cdv A' outer s H E Q hr q => ?_, V.W.gl_check, F.kp⟩
  refine s_for (I := Unit) (pit_n (pi_seq (e_sqT (e_nm (P := vTu (As.map (vO K))) 0))) (show _ = As.length by rw [List.length_map])) (pg_name (i := 1) nd rfl (Or.inl rfl)) (fun i G => G.set 1 (some (atP (As.map (vO K)) i))) (go_name 1) (fun _ _ => True) (fun _ _ => [some (vTu (As.map (vO K))), none]) (fun _ _ => []) () trivial ⟨rfl, trivial⟩ rfl (fun Hb k _ sm hk _ => ?_) (fun Hb _ sm _ => ?_) .never
  · have ea : atP (As.map (vO K)) k = vO K (As.getD k []) := by
      unfold atP
      rw [List.getD_eq_getElem?_getD, List.getElem?_map, List.getElem?_eq_getElem hk, List.getD_eq_getElem?_getD, List.getElem?_eq_getElem hk]
      rfl
    have hne : As.getD k [] ≠ [] := by
      rw [List.getD_eq_getElem?_getD, List.getElem?_eq_getElem hk]
      exact h0 _ (List.getElem_mem hk)
    rw [ea]
    refine s_ifR (k := false) (t_val (e_eq (e_mth0 (ks := ["coefficients"]) (O_is_zero V (As.getD k [])) rfl (by decide) hr (by omega) (e_nm (P := vO K (As.getD k [])) 1)) (by rw [decide_eq_false hne]))) (fun z => absurd z Bool.false_ne_true) fun _ => ?_
    exact nx_ok () trivial rfl ⟨rfl, trivial⟩ rfl
  · exact s_nil fun t Hf H2 s2 o m => q .non H2 (sm.trans (s2.trans m.same)) rfl
theorem check2 (V : Ev P K mg) (A B : List RF) (hA : A ≠ []) (hB : B ≠ []) : CalR P w K mg base 3 "check" [vO K A, vO K B] vN := check_r V [A, B] (show (2 : Nat) ≤ 100 by decide) (fun C h => by
  rcases List.mem_cons.mp h with rfl | h
  · exact hA
  · rcases List.mem_cons.mp h with rfl | h
    · exact hB
    · exact absurd h List.not_mem_nil)
theorem check1 (V : Ev P K mg) (A : List RF) (hA : A ≠ []) : CalR P w K mg base 3 "check" [vO K A] vN := check_r V [A] (show (1 : Nat) ≤ 100 by decide) (fun C h => by
  rcases List.mem_cons.mp h with rfl | h
  · exact hA
  · exact absurd h List.not_mem_nil)
theorem of_sum_c (V : Ev P K mg) (A B : List RF) (hA : A ≠ []) (hB : B ≠ []) (f : EuS) (n : Nat) (h : EuRun f n ⟨A, B, trimF [1], [], [], trimF [1]⟩) (o : LmOk A f.s f.t) : CalT P w K mg base 65 "of_sum" [vO K A, vO K B] [] (vO K (lmF f.s A)) := by
  obtain ⟨fd, F⟩ := V.W.fd_of_sum
  refine mk_cal (fn_V F sc_of_sum rfl fun cdv A' outer s H E Q hr q' => ?_) V.W.gl_of_sum F.kp (b2 F)
  refine s_expr (e_callR (check2 V A B hA hB) hr (by omega) rfl (a_cons (e_nm 0) (a_cons (e_nm 1) a_nil))) ?_
  exact s_retV (e_ix (i := 0) (e_sqT (e_call (left_multiple_c V A B hA hB f n h o) hr (by omega) rfl (a_cons (e_nm 0) (a_cons (e_nm 1) a_nil)))) (e_int (i := 0)) rfl) rfl q'
theorem of_image_0 (V : Ev P K mg) (A : List RF) (hA : A ≠ []) : CalT P w K mg base 66 "of_image" [vO K A, vO K []] [] (vO K (trimF [1])) := by
  obtain ⟨fd, F⟩ := V.W.fd_of_image
  refine mk_cal (fn_V F sc_of_image rfl fun cdv A' outer s H E Q hr q' => ?_) V.W.gl_of_image F.kp (b2 F)
  refine s_expr (e_callR (check1 V A hA) hr (by omega) rfl (a_cons (e_nm 0) a_nil)) ?_
  refine s_ifR (k := true) (t_val (e_eq (e_mth0 (ks := ["coefficients"]) (O_is_zero V []) rfl (by decide) hr (by omega) (e_nm (P := vO K []) 1)) (by rw [decide_eq_true rfl]))) (fun _ => ?_) fun z => absurd z (by decide)
  exact s_retV (e_call (of_function_c V 1) hr (by omega) rfl (a_cons (of_one V ⟨rfl, rfl, rfl, rfl, rfl⟩ hr (by omega) (by rfl) (by rfl)) a_nil)) rfl q'
theorem of_image_c (V : Ev P K mg) (A M : List RF) (hA : A ≠ []) (hM : M ≠ []) (f : EuS) (n : Nat) (h : EuRun f n ⟨A, M, trimF [1], [], [], trimF [1]⟩) (o : LmOk A f.s f.t) (m : Nat) (Qf : List RF) (hM0 : leadF M ≠ 0) (hMl : M.length ≤ 1000) (hd : DvRun M Qf [] m [] (lmF f.s A)) (om : OkMon Qf) : CalT P w K mg base 66 "of_image" [vO K A, vO K M] [] (vO K (monF Qf)) := by
  obtain ⟨fd, F⟩ := V.W.fd_of_image
  refine mk_cal (fn_V F sc_of_image rfl fun cdv A' outer s H E Q hr q' => ?_) V.W.gl_of_image F.kp (b2 F)
  refine s_expr (e_callR (check1 V A hA) hr (by omega) rfl (a_cons (e_nm 0) a_nil)) ?_
  refine s_ifR (k := false) (t_val (e_eq (e_mth0 (ks := ["coefficients"]) (O_is_zero V M) rfl (by decide) hr (by omega) (e_nm (P := vO K M) 1)) (by rw [decide_eq_false hM]))) (fun z => absurd z Bool.false_ne_true) fun _ => ?_
  exact s_retV (e_mth0 (ks := ["coefficients"]) (O_monicM V Qf om) rfl (by decide) hr (by omega) (e_call (quotient_c V (lmF f.s A) M Qf m hM hM0 hMl hd) hr (by omega) rfl (a_cons (e_ix (i := 0) (e_sqT (e_call (left_multiple_c V A M hA hM f n h o) hr (by omega) rfl (a_cons (e_nm 0) (a_cons (e_nm 1) a_nil)))) (e_int (i := 0)) rfl) (a_cons (e_nm 1) a_nil)))) rfl q'
end
end K31
set_option Elab.async false
set_option linter.all false
set_option maxRecDepth 100000
set_option maxHeartbeats 2000000
/-! W23: the loop of of_product. -/
namespace K31
open PySem PySem.Spec L2
/-- one insertion: the next rows and what is found -/
inductive InsTo (wd c : Nat) (rs : List Row) (v : List RF) : List Row → Option (List RF) → Prop
  | go (k0 : Nat) (h : OkIns wd c rs v) (o : OkSome (rdK rs v c rs.length).1 (rdK rs v c rs.length).2 k0) : InsTo wd c rs v (rs ++ [newRow (rdK rs v c rs.length).1 (rdK rs v c rs.length).2 k0]) none
  | out (h : OkIns wd c rs v) (z : ∀ k, k < wd → (rdK rs v c rs.length).1.getD k 0 = 0) (o : OkMon (trimF (rdK rs v c rs.length).2)) : InsTo wd c rs v rs (some (monF (trimF (rdK rs v c rs.length).2)))
def vFd (K : PySem.W.Frag) : Option (List RF) → VP
  | none => vN
  | some A => vO K A
section
variable {P : Program} {w : World} {K : PySem.W.Frag} {mg : Str → Option Value} {base : Heap}
theorem insert_c (V : Ev P K mg) {ad y dx : Addr} {wd c : Nat} {rs rs' : List Row} {v : List RF} {r : Option (List RF)} (h : InsTo wd c rs v rs' r) :
    MetM P w K mg base 61 (He.ga K "Relation") "insert" (mL K ad y dx wd c rs) [vAt y, vLs (vFs K v)] (mL K ad y dx wd (c + 1) rs') (vFd K r) := by
  cases h with
  | go k0 h o => exact insert_some V h k0 o
  | out h z o => exact insert_none V h z o
/-- the run of the while loop: what is found, after so many turns -/
def PrRun (F S : List RF) (wd : Nat) (A : List RF) : Nat → Nat → List Row → List RF → Option (List RF) → Prop
  | 0, _, _, _, r => r = some A
  | n + 1, c, rs, v, r => r = none ∧ OkCh v F S ∧ ∃ rs' r', InsTo wd c rs (chF v F S) rs' r' ∧ PrRun F S wd A n (c + 1) rs' (chF v F S) r'
structure PrS where
  n : Nat
  c : Nat
  rs : List Row
  v : List RF
  r : Option (List RF)
theorem of_product_c (V : Ev P K mg) (A B R : List RF) (hA : OkTl A) (hB : OkTl B) (n : Nat) (rs : List Row) (r : Option (List RF)) (hw : (tlF A).length * (tlF B).length ≤ 1000)
    (h0 : InsTo ((tlF A).length * (tlF B).length) 0 [] (unF ((tlF A).length * (tlF B).length) 0) rs r)
    (h : PrRun (tlF A) (tlF B) ((tlF A).length * (tlF B).length) R n 1 rs (unF ((tlF A).length * (tlF B).length) 0) r) : CalT P w K mg base 66 "of_product" [vO K A, vO K B] [] (vO K R) := by
  obtain ⟨fd, Fd⟩ := V.W.fd_of_product
  have nd := sc_of_product.nd
  refine mk_cal (fn_V Fd sc_of_product rfl fun cdv A' outer s H E Q hr q' => ?_) V.W.gl_of_product Fd.kp (b2 Fd)
  refine s_expr (e_callR (check2 V A B hA.ne hB.ne) hr (by omega) rfl (a_cons (e_nm 0) (a_cons (e_nm 1) a_nil))) ?_
  refine s_par 2 3 (Pa := vLs (vFs K (tlF A))) (Pb := vLs (vFs K (tlF B))) (e_call (tail_c V A hA) hr (by omega) rfl (a_cons (e_nm 0) a_nil)) (e_call (tail_c V B hB) hr (by omega) rfl (a_cons (e_nm 1) a_nil)) ?_ nd
  have l1 : (tlF A).length < 4294967296 := by have := hA.l; unfold tlF; simp; omega
  have l2 : (tlF B).length < 4294967296 := by have := hB.l; unfold tlF; simp; omega
  generalize tlF A = F at *
  generalize tlF B = S at *
  refine s_asg 4 (P := vI (((F.length * S.length : Nat) : Nat) : Int)) (e_eq (e_bin (e_blt (c_len rfl) rfl V.W.fr_len PySem.boot_len (a_cons (e_sqL (e_nm (P := vLs (vFs K F)) 2)) a_nil)) (e_blt (c_len rfl) rfl V.W.fr_len PySem.boot_len (a_cons (e_sqL (e_nm (P := vLs (vFs K S)) 3)) a_nil)) (o_mul ?_)) ?_) ?_ nd
  · rw [vFs_len, vFs_len]
    exact small_mul _ _ l1 l2
  · rw [vFs_len, vFs_len]; rfl
  generalize F.length * S.length = wd at *
  refine s_asgJ 5 (L_mk V wd) (hr.mono (by omega)) rfl (a_cons (e_nm (P := vI ((wd : Nat) : Int)) 4) a_nil) (fun z dx ad => ?_) nd
  refine s_asg 6 (P := vLs (vFs K (unF wd 0))) (e_call (unit_c V wd 0 hw) hr (by omega) rfl (a_cons (e_nm (P := vI ((wd : Nat) : Int)) 4) (a_cons (e_int (i := 0)) a_nil))) ?_ nd
  refine s_asgX 7 (e_mthM 1 (ks := ["width", "count", "rows"]) (insert_c V (ad := ad) (y := z) (dx := dx) h0) rfl rfl (by decide) (hr.mono (by omega)) (e_nm (P := vAt z) 5) (a_cons (e_nm (P := vLs (vFs K (unF wd 0))) 6) a_nil)) ?_ nd
  refine s_while (I := PrS) (fun i => PrRun F S wd R i.n i.c i.rs i.v i.r) (fun i => [some (vO K A), some (vO K B), some (vLs (vFs K F)), some (vLs (vFs K S)), some (vI ((wd : Nat) : Int)), some (vAt z), some (vLs (vFs K i.v)), some (vFd K i.r)]) (fun i => mL K ad z dx wd i.c i.rs) (fun i => i.n) (fun i => i.r.isNone) ⟨n, 1, rs, unF wd 0, r⟩ h ⟨rfl, rfl, rfl, rfl, rfl, rfl, rfl, rfl, trivial⟩ rfl (fun i hi => ?_) (fun Hb i sm hi hk => ?_) (fun Hb i sm hi hk => ?_) .never
  · obtain ⟨m, c, rs1, v, r1⟩ := i
    cases r1 with
    | none => exact t_cmp (e_nm (P := vN) 7) e_non o_isNN
    | some A1 => exact t_cmp (e_nm (P := vO K A1) 7) e_non o_isNI
  · obtain ⟨m, c, rs1, v, r1⟩ := i
    cases m with
    | zero =>
      have e : r1 = some R := hi
      subst e
      exact absurd (show false = true from hk) (by decide)
    | succ m =>
      obtain ⟨e, oc, rs2, r2, hin, hn⟩ : r1 = none ∧ OkCh v F S ∧ ∃ rs' r', InsTo wd c rs1 (chF v F S) rs' r' ∧ PrRun F S wd R m (c + 1) rs' (chF v F S) r' := hi
      subst e
      refine s_asg 6 (P := vLs (vFs K (chF v F S))) (e_call (change_of_product_c V v F S oc) hr (by omega) rfl (a_cons (e_nm (P := vLs (vFs K v)) 6) (a_cons (e_nm (P := vLs (vFs K F)) 2) (a_cons (e_nm (P := vLs (vFs K S)) 3) a_nil)))) ?_ nd
      refine s_asgX 7 (e_mthM 1 (ks := ["width", "count", "rows"]) (insert_c V (ad := ad) (y := z) (dx := dx) hin) rfl rfl (by decide) (hr.mono (by omega)) (e_nm (P := vAt z) 5) (a_cons (e_nm (P := vLs (vFs K (chF v F S))) 6) a_nil)) ?_ nd
      refine s_nil fun t Hf H1 s1 o1 m1 => ?_
      exact ⟨⟨m, c + 1, rs2, chF v F S, r2⟩, Hf, ⟨hn, Nat.lt_succ_self m⟩, s1, o1, m1⟩
  · obtain ⟨m, c, rs1, v, r1⟩ := i
    cases m with
    | zero =>
      have e : r1 = some R := hi
      subst e
      exact s_retV (e_nm (P := vO K R) 7) rfl fun v2 H2 s2 p2 => q' v2 H2 (sm.trans s2) p2
    | succ m =>
      obtain ⟨e, _⟩ : r1 = none ∧ OkCh v F S ∧ ∃ rs' r', InsTo wd c rs1 (chF v F S) rs' r' ∧ PrRun F S wd R m (c + 1) rs' (chF v F S) r' := hi
      subst e
      exact absurd (show true = false from hk) (by decide)
end
end K31
set_option Elab.async false
set_option linter.all false
set_option maxRecDepth 100000
set_option maxHeartbeats 2000000
/-! W24: monomials, exchanged, count_monomials: at most one slot. -/
namespace K31
open PySem PySem.Spec L2
def cmF (size : Nat) : Nat → Nat
  | 0 => 1
  | k + 1 => cmF size k * (size + k) / (k + 1)
section
variable {P : Program} {w : World} {K : PySem.W.Frag} {mg : Str → Option Value} {base : Heap}
theorem count_monomials_c (V : Ev P K mg) (size d : Nat) (hs : size ≤ 100) (hd : d ≤ 100) (hb : ∀ k, k < d → cmF size k ≤ 1000) : CalT P w K mg base 56 "count_monomials" [vI (size : Int), vI (d : Int)] [] (vI (cmF size d : Int)) := by
  obtain ⟨fd, F⟩ := V.W.fd_count_monomials
  have nd := sc_count_monomials.nd
  refine mk_cal (fn_V F sc_count_monomials rfl fun cdv A' outer s H E Q hr q => ?_) V.W.gl_count_monomials F.kp (b2 F)
  have D := divOk0 (w := w) (base := base) (outer := outer) (H := H) (E := E) V sc_count_monomials hr (by omega)
  refine s_asg 2 (e_int (i := 1)) ?_ nd
  refine s_for (I := Unit) (pit_n (p_range1 (i := ((d : Nat) : Int)) (e_nm (P := vI (d : Int)) 1) (by omega) (by omega) rfl V.W.fr_range) (show _ = d by omega)) (pg_name (i := 3) nd rfl (Or.inl rfl)) (fun i G => G.set 3 (some (vI (0 + (i : Nat))))) (go_name 3) (fun _ _ => True) (fun k _ => [some (vI (size : Int)), some (vI (d : Int)), some (vI (cmF size k : Int)), none]) (fun _ _ => []) () trivial ⟨rfl, rfl, rfl, trivial⟩ rfl (fun Hb k _ sm hk _ => ?_) (fun Hb _ sm _ => ?_) .never
  · have ek : (0 : Int) + (k : Nat) = ((k : Nat) : Int) := by omega
    rw [ek]
    have hc := hb k hk
    have hc2 : cmF size k < 4294967296 := by omega
    refine s_asg 2 (P := vI (cmF size (k + 1) : Int)) (e_eq (e_bin (e_bin (e_nm (P := vI (cmF size k : Int)) 2) (e_eq (e_bin (e_nm (P := vI (size : Int)) 0) (e_nm (P := vI ((k : Nat) : Int)) 3) o_add) (show vI _ = vI ((size + k : Nat) : Int) by congr 1)) (o_mul (small_mul _ _ hc2 (by omega)))) (e_eq (e_bin (e_nm (P := vI ((k : Nat) : Int)) 3) (e_int (i := 1)) o_add) (show vI _ = vI ((k + 1 : Nat) : Int) by congr 1)) (o_fdiv D (by omega))) ?_) ?_ nd
    · congr 1
      rw [Int.fdiv_eq_ediv_of_nonneg _ (by omega), ← Int.natCast_mul]
      rfl
    · exact nx_ok () trivial rfl ⟨rfl, rfl, rfl, trivial⟩ rfl
  · exact s_retV (e_nm (P := vI (cmF size d : Int)) 2) rfl fun v H2 s2 p2 => q v H2 (sm.trans s2) p2
theorem exchanged_c (V : Ev P K mg) (k : Int) : CalT P w K mg base 5 "exchanged" [vTu [vI k], vI ((0 : Nat) : Int), vI ((0 : Nat) : Int)] [] (vTu [vI k]) := by
  obtain ⟨fd, F⟩ := V.W.fd_exchanged
  have nd := sc_exchanged.nd
  refine mk_cal (fn_V F sc_exchanged rfl fun cdv A' outer s H E Q hr q => ?_) V.W.gl_exchanged F.kp (b3 F)
  refine s_asgN 3 (n_list (e_sqT (e_nm (P := vTu [vI k]) 0)) rfl V.W.fr_list) (fun ad => ?_) nd
  refine s_setL 0 (i := 0) (P := vI (k - 1)) rfl (e_bin (e_ixM 0 (i := 0) (P := vI k) rfl (e_nm (P := vAt ad) 3) (e_nm (P := vI ((0 : Nat) : Int)) 1) rfl) (e_int (i := 1)) o_sub) (e_nm (P := vAt ad) 3) (e_nm (P := vI ((0 : Nat) : Int)) 1) (show (0 : Nat) < 1 by decide) ?_
  refine s_setL 0 (i := 0) (P := vI k) rfl (e_eq (e_bin (e_ixM 0 (i := 0) (P := vI (k - 1)) rfl (e_nm (P := vAt ad) 3) (e_nm (P := vI ((0 : Nat) : Int)) 2) rfl) (e_int (i := 1)) o_add) (show vI _ = vI k by congr 1; omega)) (e_nm (P := vAt ad) 3) (e_nm (P := vI ((0 : Nat) : Int)) 2) (show (0 : Nat) < 1 by decide) ?_
  refine s_calm 3 rfl ?_
  exact s_retV (e_bty c_tuple rfl V.W.fr_tuple PyProof.Rows.boot_tuple (a_cons (e_sqL (e_nm (P := vLs [vI k]) 3)) a_nil)) rfl q
theorem mono00 (V : Ev P K mg) : CalT P w K mg base 5 "monomials" [vI ((0 : Nat) : Int), vI ((0 : Nat) : Int)] [] (vLs [vTu []]) := by
  obtain ⟨fd, F⟩ := V.W.fd_monomials
  have nd := sc_monomials.nd
  refine mk_cal (fn_V F sc_monomials rfl fun cdv A' outer s H E Q hr q => ?_) V.W.gl_monomials F.kp (b2 F)
  refine s_ifR (k := true) (t_cmp (e_nm (P := vI ((0 : Nat) : Int)) 0) (e_int (i := 0)) o_eq) (fun _ => ?_) fun z => absurd z (by decide)
  refine s_ifR (k := true) (t_cmp (e_nm (P := vI ((0 : Nat) : Int)) 1) (e_int (i := 0)) o_eq) (fun _ => ?_) fun z => absurd z (by decide)
  exact s_retV (R := vLs [vTu []]) (e_lst (a_cons (e_tup a_nil (show (0 : Nat) ≤ 100 by decide)) a_nil) (show (1 : Nat) ≤ 100 by decide)) rfl q
theorem mono0 (V : Ev P K mg) (d : Nat) (hd : d ≠ 0) : CalT P w K mg base 5 "monomials" [vI ((0 : Nat) : Int), vI (d : Int)] [] (vLs []) := by
  obtain ⟨fd, F⟩ := V.W.fd_monomials
  have nd := sc_monomials.nd
  refine mk_cal (fn_V F sc_monomials rfl fun cdv A' outer s H E Q hr q => ?_) V.W.gl_monomials F.kp (b2 F)
  refine s_ifR (k := true) (t_cmp (e_nm (P := vI ((0 : Nat) : Int)) 0) (e_int (i := 0)) o_eq) (fun _ => ?_) fun z => absurd z (by decide)
  refine s_ifR (k := false) (t_eq (t_cmp (e_nm (P := vI (d : Int)) 1) (e_int (i := 0)) o_eq) (decide_eq_false (by omega))) (fun z => absurd z Bool.false_ne_true) fun _ => ?_
  exact s_retV (R := vLs []) (e_lst a_nil (show (0 : Nat) ≤ 100 by decide)) rfl q
theorem mono1 (V : Ev P K mg) (d : Nat) (hd : d ≤ 100) : CalT P w K mg base 7 "monomials" [vI ((1 : Nat) : Int), vI (d : Int)] [] (vLs [vTu [vI (d : Int)]]) := by
  obtain ⟨fd, F⟩ := V.W.fd_monomials
  have nd := sc_monomials.nd
  refine mk_cal (fn_V F sc_monomials rfl fun cdv A' outer s H E Q hr q => ?_) V.W.gl_monomials F.kp (b2 F)
  refine s_ifR (k := false) (t_cmp (e_nm (P := vI ((1 : Nat) : Int)) 0) (e_int (i := 0)) o_eq) (fun z => absurd z (by decide)) fun _ => ?_
  refine s_asgN 2 (n_lst a_nil (show (0 : Nat) ≤ 100 by decide)) (fun ad => ?_) nd
  refine s_for (I := Unit) (pit_n (p_down (i := (d : Int)) (j := -1) (e_nm (P := vI (d : Int)) 1) (e_un (e_int (i := 1)) u_neg) (e_un (e_int (i := 1)) u_neg) (by omega) rfl V.W.fr_range) (show _ = d + 1 by omega)) (pg_name (i := 3) nd rfl (Or.inl rfl)) (fun i G => G.set 3 (some (vI ((d : Int) + (i : Nat) * (-1))))) (go_name 3) (fun _ _ => True) (fun k _ => [some (vI ((1 : Nat) : Int)), some (vI (d : Int)), some (vAt ad), none, none]) (fun k _ => [.l ad (if k = 0 then [] else [vTu [vI (d : Int)]])]) () trivial ⟨rfl, rfl, rfl, trivial⟩ rfl (fun Hb k _ sm hk _ => ?_) (fun Hb _ sm _ => ?_) .never
  · have ek : (d : Int) + (k : Nat) * (-1) = ((d - k : Nat) : Int) := by omega
    rw [ek]
    rcases Nat.eq_zero_or_pos k with rfl | hk0
    · refine s_for (I := Unit) (pit_n (pi_seq (e_sqL (e_call (mono00 V) hr (by omega) rfl (a_cons (e_eq (e_bin (e_nm (P := vI ((1 : Nat) : Int)) 0) (e_int (i := 1)) o_sub) (show vI _ = vI ((0 : Nat) : Int) by congr 1)) (a_cons (e_eq (e_bin (e_nm (P := vI (d : Int)) 1) (e_nm (P := vI ((d - 0 : Nat) : Int)) 3) o_sub) (show vI _ = vI ((0 : Nat) : Int) by congr 1; omega)) a_nil))))) (show _ = 1 by rfl)) (pg_name (i := 4) nd rfl (Or.inl rfl)) (fun i G => G.set 4 (some (atP [vTu []] i))) (go_name 4) (fun _ _ => True) (fun k _ => [some (vI ((1 : Nat) : Int)), some (vI (d : Int)), some (vAt ad), some (vI ((d - 0 : Nat) : Int)), none]) (fun k _ => [.l ad (if k = 0 then [] else [vTu [vI (d : Int)]])]) () trivial ⟨rfl, rfl, rfl, rfl, trivial⟩ rfl (fun Hb2 j _ sm2 hj _ => ?_) (fun Hb2 _ sm2 _ => ?_) .never
      · obtain rfl : j = 0 := by omega
        refine s_app 0 (P := vTu [vI (d : Int)]) rfl (e_nm (P := vAt ad) 2) (e_bin (e_tup (Ps := [vI (d : Int)]) (a_cons (e_nm (P := vI (d : Int)) 3) a_nil) (show (1 : Nat) ≤ 100 by decide)) (e_nm (P := vTu []) 4) (o_catT (show (1 : Nat) + 0 ≤ 100000 by decide))) (show (0 : Nat) ≤ 100000 by decide) ?_
        exact nx_ok () trivial rfl ⟨rfl, rfl, rfl, rfl, trivial⟩ rfl
      · exact nx_ok2 sm2 () trivial rfl ⟨rfl, rfl, rfl, trivial⟩ rfl
    · refine s_for (I := Unit) (pit_n (pi_seq (e_sqL (e_call (mono0 V k (by omega)) hr (by omega) rfl (a_cons (e_eq (e_bin (e_nm (P := vI ((1 : Nat) : Int)) 0) (e_int (i := 1)) o_sub) (show vI _ = vI ((0 : Nat) : Int) by congr 1)) (a_cons (e_eq (e_bin (e_nm (P := vI (d : Int)) 1) (e_nm (P := vI ((d - k : Nat) : Int)) 3) o_sub) (show vI _ = vI ((k : Nat) : Int) by congr 1; omega)) a_nil))))) (show _ = 0 by rfl)) (pg_name (i := 4) nd rfl (Or.inl rfl)) (fun i G => G.set 4 (some (atP [] i))) (go_name 4) (fun _ _ => True) (fun _ _ => [some (vI ((1 : Nat) : Int)), some (vI (d : Int)), some (vAt ad), some (vI ((d - k : Nat) : Int)), none]) (fun _ _ => [.l ad (if k = 0 then [] else [vTu [vI (d : Int)]])]) () trivial ⟨rfl, rfl, rfl, rfl, trivial⟩ rfl (fun Hb2 j _ sm2 hj _ => absurd hj (Nat.not_lt_zero _)) (fun Hb2 _ sm2 _ => ?_) .never
      refine nx_ok2 sm2 () trivial rfl ⟨rfl, rfl, rfl, trivial⟩ ?_
      rw [if_neg (by omega), if_neg (by omega)]
  · rw [if_neg (by omega)]
    refine s_calm 2 rfl ?_
    exact s_retV (e_nm (P := vLs [vTu [vI (d : Int)]]) 2) rfl fun v H2 s2 p2 => q v H2 (sm.trans s2) p2
end
end K31
set_option Elab.async false
set_option linter.all false
set_option maxRecDepth 100000
set_option maxHeartbeats 2000000
/-! W25: change_of_power at one slot. -/
namespace K31
open PySem PySem.Spec L2
section
variable {X : Cx} {G : Ctx} {M : MCtx}
theorem e_idx1 {l e : Expr} {k : Int} {apos pos : Pos} (hu : X.A.units + 65 < cLine) (hl : TyE X l G M (vLs [vTu [vI k]])) (he : TyE X e G M (vTu [vI k]))
    (hpe : X.A.units + 65 < cLine → ∀ (to : TE) (t : TA), PE X l to → PA X [e] t → PE X (.Call (.Attribute l "index" apos) [e] [] pos) (tBM X.K "list" (rIndexD X.K) to t) := by exact fun hu _ _ ho ha => pe_bm PySem.F.plainAttrs_list PySem.F.slot_list_index PySem.F.type_list_index (mt_indexD hu) ho ha)
    (hst : starEach [e] X.env = (false, eval e X.env) :: starEach [] X.env := by rfl) : TyE X (.Call (.Attribute l "index" apos) [e] [] pos) G M (vI ((0 : Nat) : Int)) :=
  PE.imp (hpe hu _ _ hl (a_cons he a_nil hst)) fun t H Q ⟨Hf, ok, m, q⟩ => ⟨Hf, ok, m, fun v H1f H1 s1 m1 pv => by
    obtain ⟨a, xs, rfl, hx, its⟩ := pv
    refine ⟨.inl ⟨rfl, _, SqL.of (m1.same _ _ hx)⟩, H1f, ok.mono s1, m1, fun vs H2f H2 s2 m2 itv => ?_⟩
    obtain ⟨y, rfl, b, ys, rfl, hy, ity⟩ := it1 itv
    obtain ⟨i, rfl, ei⟩ := it1 ity
    have ei : i = .int k := ei
    subst ei
    obtain ⟨z, rfl, c, zs, rfl, hz, itz⟩ := it1 its
    obtain ⟨i, rfl, ei⟩ := it1 itz
    have ei : i = .int k := ei
    subst ei
    have sm := s2.trans m2.same
    have d1 : Dp X.K H2 (.ref c) (.tuple [.int k]) := .tup (SqT.of (sm _ _ hz)) (.cons (.int k) .nil)
    have d2 : Dp X.K H2 (.ref b) (.tuple [.int k]) := .tup (SqT.of (m2.same _ _ hy)) (.cons (.int k) .nil)
    exact ⟨a, .ref b, .tuple [.int k], [.tuple [.int k]], 0, .tuple [.int k], rfl, rfl, .lst (SqL.of (sm _ _ hx)) (.cons d1 .nil), d2, by rfl, by rfl, rfl, by simp [PyData.eqv, PyData.eqvAll], fun m z h => absurd h (Nat.not_lt_zero _), q _ H2f H2 (s1.trans s2) m2 rfl⟩⟩
end
theorem room65 {k : Nat} {A : Around} (r : Room k A) : A.units + 65 < cLine := by have := r.un; omega
structure OkCp (k : Nat) (u : RF) : Prop where
  k0 : 0 < k
  one : Co 25 1
  kc : ∃ c, c ≤ 50 ∧ Cost c (cR ((k : Nat) : Rat))
  m1 : Co2 1 (cR ((k : Nat) : Rat))
  m2 : Co2 (1 * cR ((k : Nat) : Rat)) u
  ad : CanAdd (1 : RF).d (1 * cR ((k : Nat) : Rat) * u)
noncomputable def cpF (k : Nat) (u : RF) : RF := (1 : RF).d + 1 * cR ((k : Nat) : Rat) * u
section
variable {P : Program} {w : World} {K : PySem.W.Frag} {mg : Str → Option Value} {base : Heap}
theorem change_of_power_c (V : Ev P K mg) (k : Nat) (u : RF) (h : OkCp k u) : CalT P w K mg base 58 "change_of_power" [vLs (vFs K [1]), vLs [vTu [vI (k : Int)]], vLs (vFs K [u])] [] (vLs (vFs K [cpF k u])) := by
  obtain ⟨fd, Fd⟩ := V.W.fd_change_of_power
  have nd := sc_change_of_power.nd
  have hk0 := h.k0
  obtain ⟨ck, hck, hcost⟩ := h.kc
  refine mk_cal (fn_V Fd sc_change_of_power rfl fun cdv A' outer s H E Q hr q => ?_) V.W.gl_change_of_power Fd.kp (b3 Fd)
  refine s_lcG 3 (own := [("c", 6)]) (vs := [6]) (n := 1) (Zp := fun i => vF K (([1] : List RF).getD i 0).d) (pit_n (pi_seq (e_sqL (e_nm (P := vLs (vFs K [1])) 0))) (show _ = 1 by rfl)) (by omega) nd (blk0 (by decide +kernel)) rfl (gow_name 6) (fun _ _ _ _ _ => pg_name (i := 6) nd rfl (Or.inl rfl)) (fun s2 H2 C cl fp i hi => ?_) (fun ad => ?_)
  · obtain rfl : i = 0 := by omega
    exact e_mth0 (ks := ["num", "den"]) (F_dC V h.one) rfl (by decide) hr (by omega) (e_nm (P := vF K 1) 6)
  refine s_for (I := Unit) (pit_n (p_range1 (i := ((1 : Nat) : Int)) (e_blt (c_len rfl) rfl V.W.fr_len PySem.boot_len (a_cons (e_sqL (e_nm (P := vLs [vTu [vI (k : Int)]]) 1)) a_nil)) (by omega) (by omega) rfl V.W.fr_range) (show _ = 1 by rfl)) (pg_name (i := 4) nd rfl (Or.inl rfl)) (fun i G => G.set 4 (some (vI (0 + (i : Nat))))) (go_name 4) (fun _ _ => True) (fun _ _ => [some (vLs (vFs K [1])), some (vLs [vTu [vI (k : Int)]]), some (vLs (vFs K [u])), some (vAt ad), none, none, none, none, none, none]) (fun t _ => [.l ad (vFs K [if t = 0 then (1 : RF).d else cpF k u])]) () trivial ⟨rfl, rfl, rfl, rfl, trivial⟩ rfl (fun Hb i _ sm hi _ => ?_) (fun Hb _ sm _ => ?_) .never
  · obtain rfl : i = 0 := by omega
    have ei : (0 : Int) + ((0 : Nat) : Nat) = ((0 : Nat) : Int) := rfl
    rw [ei]
    refine s_for (I := Unit) (pit_n (p_range1 (i := ((1 : Nat) : Int)) (e_blt (c_len rfl) rfl V.W.fr_len PySem.boot_len (a_cons (e_sqL (e_nm (P := vLs (vFs K [u])) 2)) a_nil)) (by omega) (by omega) rfl V.W.fr_range) (show _ = 1 by rfl)) (pg_name (i := 5) nd rfl (Or.inl rfl)) (fun i G => G.set 5 (some (vI (0 + (i : Nat))))) (go_name 5) (fun _ _ => True) (fun _ _ => [some (vLs (vFs K [1])), some (vLs [vTu [vI (k : Int)]]), some (vLs (vFs K [u])), some (vAt ad), some (vI ((0 : Nat) : Int)), none, none, none, none, none]) (fun t _ => [.l ad (vFs K [if t = 0 then (1 : RF).d else cpF k u])]) () trivial ⟨rfl, rfl, rfl, rfl, rfl, trivial⟩ rfl (fun Hb2 j _ sm2 hj _ => ?_) (fun Hb2 _ sm2 _ => ?_) .never
    · obtain rfl : j = 0 := by omega
      rw [ei]
      refine s_ifR (k := true) (t_eq (t_w (w_and (j := true) (k := true) (t_eq (t_cmp (e_ix (i := 0) (e_sqT (e_ix (i := 0) (P := vTu [vI (k : Int)]) (e_sqL (e_nm (P := vLs [vTu [vI (k : Int)]]) 1)) (e_nm (P := vI ((0 : Nat) : Int)) 4) rfl)) (e_nm (P := vI ((0 : Nat) : Int)) 5) (P := vI (k : Int)) rfl) (e_int (i := 0)) o_gt) (decide_eq_true (by omega))) fun _ => w_and1 (t_eq (t_not (t_val (e_mth0 (ks := ["num", "den"]) (F_is_zero V 1) rfl (by decide) hr (by omega) (e_ix (i := 0) (P := vF K 1) (e_sqL (e_nm (P := vLs (vFs K [1])) 0)) (e_nm (P := vI ((0 : Nat) : Int)) 4) rfl)))) (by rw [decide_eq_false (fun h => Lean.Grind.Field.zero_ne_one h.symm)]; rfl)))) rfl) (fun _ => ?_) fun z => absurd z (by decide)
      refine s_asg 6 (P := vF K (1 * cR ((k : Nat) : Rat))) (e_bin (e_ix (i := 0) (P := vF K 1) (e_sqL (e_nm (P := vLs (vFs K [1])) 0)) (e_nm (P := vI ((0 : Nat) : Int)) 4) rfl) (e_call (of_ratio_c V (r := ((k : Nat) : Rat)) hcost hck) hr (by omega) rfl (a_cons (e_eq (e_mk0 (R_mk1 V (k : Int)) (fun _ => ⟨rfl, trivial⟩) hr (by omega) rfl (a_cons (e_ix (i := 0) (e_sqT (e_ix (i := 0) (P := vTu [vI (k : Int)]) (e_sqL (e_nm (P := vLs [vTu [vI (k : Int)]]) 1)) (e_nm (P := vI ((0 : Nat) : Int)) 4) rfl)) (e_nm (P := vI ((0 : Nat) : Int)) 5) (P := vI (k : Int)) rfl) a_nil)) (by congr 1)) a_nil)) (o_own (op := .Mult) (F_mulC V h.m1) V.W.m.sF hr (by omega))) ?_ nd
      have era : raF 0 [u] = [(0, u)] := by unfold raF; rw [if_neg (by simp)]; rfl
      refine s_for (I := Unit) (pit_y (n := 1) (pit_n (pi_seq (e_sqL (e_eq (e_call (raised_c V 0 [u]) hr (by omega) rfl (a_cons (e_nm (P := vI ((0 : Nat) : Int)) 5) (a_cons (e_nm (P := vLs (vFs K [u])) 2) a_nil))) (show _ = vLs [vTu [vI ((0 : Nat) : Int), vF K u]] by rw [era]; rfl)))) (show _ = 1 by rfl)) (Yp' := fun _ => vTu [vI ((0 : Nat) : Int), vF K u]) (fun t ht => by
        obtain rfl : t = 0 := by omega
        rfl)) (pg_tup rfl (pgs_cons (pg_name (i := 7) nd rfl (Or.inl rfl)) (pgs_cons (pg_name (i := 8) nd rfl (Or.inl rfl)) pgs_nil))) (fun t G => setN G [7, 8] [vI ((0 : Nat) : Int), vF K u]) (go_tup [7, 8] (fun _ => rfl))
          (fun _ _ => True) (fun _ _ => [some (vLs (vFs K [1])), some (vLs [vTu [vI (k : Int)]]), some (vLs (vFs K [u])), some (vAt ad), some (vI ((0 : Nat) : Int)), some (vI ((0 : Nat) : Int)), some (vF K (1 * cR ((k : Nat) : Rat))), none, none, none]) (fun t _ => [.l ad (vFs K [if t = 0 then (1 : RF).d else cpF k u])]) () trivial ⟨rfl, rfl, rfl, rfl, rfl, rfl, rfl, trivial⟩ rfl (fun Hb3 t _ sm3 ht _ => ?_) (fun Hb3 _ sm3 _ => ?_) .never
      · obtain rfl : t = 0 := by omega
        refine s_asg 9 (P := vI ((0 : Nat) : Int)) (e_idx1 (k := (k : Int)) (room65 hr) (e_nm (P := vLs [vTu [vI (k : Int)]]) 1) (e_call (exchanged_c V (k : Int)) hr (by omega) rfl (a_cons (e_ix (i := 0) (P := vTu [vI (k : Int)]) (e_sqL (e_nm (P := vLs [vTu [vI (k : Int)]]) 1)) (e_nm (P := vI ((0 : Nat) : Int)) 4) rfl) (a_cons (e_nm (P := vI ((0 : Nat) : Int)) 5) (a_cons (e_nm (P := vI ((0 : Nat) : Int)) 7) a_nil))))) ?_ nd
        refine s_setL 0 (i := 0) (P := vF K (cpF k u)) rfl (e_bin (e_ixM 0 (i := 0) (P := vF K (1 : RF).d) rfl (e_nm (P := vAt ad) 3) (e_nm (P := vI ((0 : Nat) : Int)) 9) rfl) (e_bin (e_nm (P := vF K (1 * cR ((k : Nat) : Rat))) 6) (e_nm (P := vF K u) 8) (o_own (op := .Mult) (F_mulC V h.m2) V.W.m.sF hr (by omega))) (o_own (op := .Add) (F_addC V h.ad) V.W.m.sF hr (by omega))) (e_nm (P := vAt ad) 3) (e_nm (P := vI ((0 : Nat) : Int)) 9) (show (0 : Nat) < 1 by decide) ?_
        exact nx_ok () trivial rfl ⟨rfl, rfl, rfl, rfl, rfl, rfl, rfl, trivial⟩ rfl
      · refine s_end ?_ rfl
        exact nx_ok2 sm3 () trivial rfl ⟨rfl, rfl, rfl, rfl, rfl, trivial⟩ rfl
    · exact nx_ok2 sm2 () trivial rfl ⟨rfl, rfl, rfl, rfl, trivial⟩ rfl
  · refine s_calm 3 rfl ?_
    exact s_retV (e_nm (P := vLs (vFs K [cpF k u])) 3) rfl fun v H2 s2 p2 => q v H2 (sm.trans s2) p2
end
end K31
set_option Elab.async false
set_option linter.all false
set_option maxRecDepth 100000
set_option maxHeartbeats 2000000
/-! W26: of_power at no slot and at one. -/
namespace K31
open PySem PySem.Spec L2
theorem cmF1 : ∀ k, cmF 1 k = 1
  | 0 => rfl
  | k + 1 => by
    show cmF 1 k * (1 + k) / (k + 1) = 1
    rw [cmF1 k, Nat.one_mul, Nat.add_comm]
    exact Nat.div_self (Nat.succ_pos k)
theorem cmF0 : ∀ k, cmF 0 (k + 1) = 0
  | 0 => rfl
  | k + 1 => by
    show cmF 0 (k + 1) * (0 + (k + 1)) / (k + 1 + 1) = 0
    rw [cmF0 k, Nat.zero_mul, Nat.zero_div]
section
variable {P : Program} {w : World} {K : PySem.W.Frag} {mg : Str → Option Value} {base : Heap}
structure OkPw1 (A : List RF) (k : Nat) (u : RF) (R : List RF) : Prop where
  tl : OkTl A
  e : tlF A = [u]
  kl : k ≤ 100
  cp : OkCp k u
  ins : ∃ rs rs', InsTo 1 0 [] (unF 1 0) rs none ∧ InsTo 1 1 rs [cpF k u] rs' (some R)
theorem unF10 : unF 1 0 = [1] := rfl
theorem of_power_1 (V : Ev P K mg) (A : List RF) (k : Nat) (most : Int) (u : RF) (R : List RF) (h : OkPw1 A k u R) (hm : 1 ≤ most) : ∃ fd, FunD K "of_power" "of_power" (defArgs st_of_power) (defBody st_of_power) (defScope st_of_power) [] [("most", .int 60)] (He.fAd K ("of_power", none)) fd ∧ FnOk P w K mg base CX0 67 (He.fAd K ("of_power", none)) fd p_of_power (spV [vO K A, vI (k : Int), vI most] (vO K R)) := by
  obtain ⟨fd, Fd⟩ := V.W.fd_of_power
  have nd := sc_of_power.nd
  obtain ⟨rs, rs', h1, h2⟩ := h.ins
  have kl := h.kl
  refine ⟨fd, Fd, fn_V Fd sc_of_power rfl fun cdv A' outer s H E Q hr q => ?_⟩
  refine s_expr (e_callR (check1 V A h.tl.ne) hr (by omega) rfl (a_cons (e_nm 0) a_nil)) ?_
  refine s_asg 3 (P := vLs (vFs K [u])) (e_eq (e_call (tail_c V A h.tl) hr (by omega) rfl (a_cons (e_nm 0) a_nil)) (by rw [h.e])) ?_ nd
  refine s_ifR (k := false) (t_eq (t_cmp (e_call (count_monomials_c V 1 k (by omega) kl (fun j _ => by rw [cmF1]; omega)) hr (by omega) rfl (a_cons (e_blt (c_len rfl) rfl V.W.fr_len PySem.boot_len (a_cons (e_sqL (e_nm (P := vLs (vFs K [u])) 3)) a_nil)) (a_cons (e_nm (P := vI (k : Int)) 1) a_nil))) (e_nm (P := vI most) 2) o_gt) (decide_eq_false (by rw [cmF1]; omega))) (fun z => absurd z Bool.false_ne_true) fun _ => ?_
  refine s_asg 4 (P := vLs [vTu [vI (k : Int)]]) (e_call (mono1 V k kl) hr (by omega) rfl (a_cons (e_blt (c_len rfl) rfl V.W.fr_len PySem.boot_len (a_cons (e_sqL (e_nm (P := vLs (vFs K [u])) 3)) a_nil)) (a_cons (e_nm (P := vI (k : Int)) 1) a_nil))) ?_ nd
  refine s_asgJ 5 (L_mk V 1) (hr.mono (by omega)) rfl (a_cons (e_blt (c_len rfl) rfl V.W.fr_len PySem.boot_len (a_cons (e_sqL (e_nm (P := vLs [vTu [vI (k : Int)]]) 4)) a_nil)) a_nil) (fun z dx ad => ?_) nd
  refine s_asg 6 (P := vLs (vFs K (unF 1 0))) (e_call (unit_c V 1 0 (by omega)) hr (by omega) rfl (a_cons (e_blt (c_len rfl) rfl V.W.fr_len PySem.boot_len (a_cons (e_sqL (e_nm (P := vLs [vTu [vI (k : Int)]]) 4)) a_nil)) (a_cons (e_int (i := 0)) a_nil))) ?_ nd
  refine s_asgX 7 (e_mthM 1 (ks := ["width", "count", "rows"]) (insert_c V (ad := ad) (y := z) (dx := dx) h1) rfl rfl (by decide) (hr.mono (by omega)) (e_nm (P := vAt z) 5) (a_cons (e_nm (P := vLs (vFs K (unF 1 0))) 6) a_nil)) ?_ nd
  refine s_while (I := Bool) (fun _ => True) (fun i => [some (vO K A), some (vI (k : Int)), some (vI most), some (vLs (vFs K [u])), some (vLs [vTu [vI (k : Int)]]), some (vAt z), some (vLs (vFs K (if i then [cpF k u] else [1]))), some (vFd K (if i then some R else none))]) (fun i => mL K ad z dx 1 (if i then 2 else 1) (if i then rs' else rs)) (fun i => if i then 0 else 1) (fun i => !i) false trivial ⟨rfl, rfl, rfl, rfl, rfl, rfl, rfl, rfl, trivial⟩ rfl (fun i hi => ?_) (fun Hb i sm hi hk => ?_) (fun Hb i sm hi hk => ?_) .never
  · cases i with
    | false => exact t_cmp (e_nm (P := vN) 7) e_non o_isNN
    | true => exact t_cmp (e_nm (P := vO K R) 7) e_non o_isNI
  · cases i with
    | true => exact absurd hk (by decide)
    | false =>
      refine s_asg 6 (P := vLs (vFs K [cpF k u])) (e_call (change_of_power_c V k u h.cp) hr (by omega) rfl (a_cons (e_nm (P := vLs (vFs K [1])) 6) (a_cons (e_nm (P := vLs [vTu [vI (k : Int)]]) 4) (a_cons (e_nm (P := vLs (vFs K [u])) 3) a_nil)))) ?_ nd
      refine s_asgX 7 (e_mthM 1 (ks := ["width", "count", "rows"]) (insert_c V (ad := ad) (y := z) (dx := dx) h2) rfl rfl (by decide) (hr.mono (by omega)) (e_nm (P := vAt z) 5) (a_cons (e_nm (P := vLs (vFs K [cpF k u])) 6) a_nil)) ?_ nd
      refine s_nil fun t Hf H1 s1 o1 m1 => ?_
      exact ⟨true, Hf, ⟨trivial, Nat.zero_lt_one⟩, s1, o1, m1⟩
  · cases i with
    | false => exact absurd hk (by decide)
    | true => exact s_retV (e_nm (P := vO K R) 7) rfl fun v2 H2 s2 p2 => q v2 H2 (sm.trans s2) p2
structure OkPw0 (A : List RF) (k : Nat) (R : List RF) : Prop where
  tl : OkTl A
  e : tlF A = []
  kl : k + 1 ≤ 100
  ins : ∃ rs, InsTo 0 0 [] (unF 0 0) rs (some R)
theorem of_power_0 (V : Ev P K mg) (A : List RF) (k : Nat) (most : Int) (R : List RF) (h : OkPw0 A k R) (hm : 0 ≤ most) : ∃ fd, FunD K "of_power" "of_power" (defArgs st_of_power) (defBody st_of_power) (defScope st_of_power) [] [("most", .int 60)] (He.fAd K ("of_power", none)) fd ∧ FnOk P w K mg base CX0 67 (He.fAd K ("of_power", none)) fd p_of_power (spV [vO K A, vI ((k + 1 : Nat) : Int), vI most] (vO K R)) := by
  obtain ⟨fd, Fd⟩ := V.W.fd_of_power
  have nd := sc_of_power.nd
  obtain ⟨rs, h1⟩ := h.ins
  have kl := h.kl
  refine ⟨fd, Fd, fn_V Fd sc_of_power rfl fun cdv A' outer s H E Q hr q => ?_⟩
  refine s_expr (e_callR (check1 V A h.tl.ne) hr (by omega) rfl (a_cons (e_nm 0) a_nil)) ?_
  refine s_asg 3 (P := vLs (vFs K [])) (e_eq (e_call (tail_c V A h.tl) hr (by omega) rfl (a_cons (e_nm 0) a_nil)) (by rw [h.e])) ?_ nd
  refine s_ifR (k := false) (t_eq (t_cmp (e_call (count_monomials_c V 0 (k + 1) (by omega) kl (fun j _ => by
    cases j with
    | zero => decide
    | succ j => rw [cmF0]; omega)) hr (by omega) rfl (a_cons (e_blt (c_len rfl) rfl V.W.fr_len PySem.boot_len (a_cons (e_sqL (e_nm (P := vLs (vFs K [])) 3)) a_nil)) (a_cons (e_nm (P := vI ((k + 1 : Nat) : Int)) 1) a_nil))) (e_nm (P := vI most) 2) o_gt) (decide_eq_false (by rw [cmF0]; omega))) (fun z => absurd z Bool.false_ne_true) fun _ => ?_
  refine s_asg 4 (P := vLs []) (e_call (mono0 V (k + 1) (by omega)) hr (by omega) rfl (a_cons (e_blt (c_len rfl) rfl V.W.fr_len PySem.boot_len (a_cons (e_sqL (e_nm (P := vLs (vFs K [])) 3)) a_nil)) (a_cons (e_nm (P := vI ((k + 1 : Nat) : Int)) 1) a_nil))) ?_ nd
  refine s_asgJ 5 (L_mk V 0) (hr.mono (by omega)) rfl (a_cons (e_blt (c_len rfl) rfl V.W.fr_len PySem.boot_len (a_cons (e_sqL (e_nm (P := vLs []) 4)) a_nil)) a_nil) (fun z dx ad => ?_) nd
  refine s_asg 6 (P := vLs (vFs K (unF 0 0))) (e_call (unit_c V 0 0 (by omega)) hr (by omega) rfl (a_cons (e_blt (c_len rfl) rfl V.W.fr_len PySem.boot_len (a_cons (e_sqL (e_nm (P := vLs []) 4)) a_nil)) (a_cons (e_int (i := 0)) a_nil))) ?_ nd
  refine s_asgX 7 (e_mthM 1 (ks := ["width", "count", "rows"]) (insert_c V (ad := ad) (y := z) (dx := dx) h1) rfl rfl (by decide) (hr.mono (by omega)) (e_nm (P := vAt z) 5) (a_cons (e_nm (P := vLs (vFs K (unF 0 0))) 6) a_nil)) ?_ nd
  refine s_while (I := Unit) (fun _ => True) (fun i => [some (vO K A), some (vI ((k + 1 : Nat) : Int)), some (vI most), some (vLs (vFs K [])), some (vLs []), some (vAt z), some (vLs (vFs K (unF 0 0))), some (vO K R)]) (fun i => mL K ad z dx 0 1 rs) (fun i => 0) (fun i => false) () trivial ⟨rfl, rfl, rfl, rfl, rfl, rfl, rfl, rfl, trivial⟩ rfl (fun i hi => ?_) (fun Hb i sm hi hk => absurd hk (by decide)) (fun Hb i sm hi hk => ?_) .never
  · exact t_cmp (e_nm (P := vO K R) 7) e_non o_isNI
  · exact s_retV (e_nm (P := vO K R) 7) rfl fun v2 H2 s2 p2 => q v2 H2 (sm.trans s2) p2
end
end K31
set_option Elab.async false
set_option linter.all false
set_option maxRecDepth 100000
set_option maxHeartbeats 2000000
/-! T12: exceptions of an own class, in the typed layer. -/
namespace K31
open PySem PySem.Spec L2
/-- a promise that raises: an exception of the class at C -/
def spZ (C : Addr) (Ps : List VP) : Sp := fun vs H Q E => Items Ps vs H ∧ ∀ H', Same H H' → E (.ref C) none H'
theorem spZ_nil {C : Addr} {Ps : List VP} {vs : List V} {H : Hp} {Q : VK} {E : XK} (h : spZ C Ps vs H Q E) : spZ C Ps (vs ++ []) H Q E := by
  rw [List.append_nil]
  exact h
structure CalZ (P : Program) (w : World) (K : PySem.W.Frag) (mg : Str → Option Value) (base : Heap) (k : Nat) (x : Str) (Ps : List VP) (C : Addr) : Prop where
  ex : ∃ f : Addr, FnR P w K mg base (L2.CX P w) k f (spZ C Ps) ∧ mg x = some (.ref f) ∧ PySem.W.keepIn K (.ref f) = true
section
variable {X : Cx} {CX : CXT} {k j : Nat} {f C : Addr} {sp : Sp} {E : St → XK} {x : Str} {p pos pos2 : Pos} {e : Expr} {es : List Expr} {t : TA} {G : Ctx} {M : MCtx} {Ps : List VP} {R : VP} {W : WX} {H0 : Hp} {D : Ends} {rest : List Stmt}
theorem pe_callRS (F : FnR X.prog X.w X.K X.mg X.base CX k f sp) (hr : Room k X.A) (hg : Gl X x) (hm : X.mg x = some (.ref f)) (hk : PySem.W.keepIn X.K (.ref f) = true) (hx : ∀ σ, PassesAt CX X σ (E σ))
    (ha : PA X (e :: es) t) (hdb : (x == ("__debug__" : Str)) = false := by decide) (he : starEach (e :: es) X.env = (false, eval e X.env) :: starEach es X.env := by rfl) (hpl : (backTo pos (starEach es X.env)).any (·.1) = false := by rfl) :
    PE X (.Call (.Name x p) (e :: es) [] pos) (tCallS sp E t) := by
  refine ⟨fun pins s σ H Q I h => ?_⟩
  refine wpAny_Call_Name_kw (ld_glob I hg hm ?_ hdb)
  refine PySem.W.callWith_K (h₀ := X.base) I.ok.mod.kin hk (thn (ha.run pos pins s σ H _ I h) fun us s1 ⟨vs, H1, I1, r, q⟩ => ⟨I1.kIn, ?_⟩) he hpl
  refine wpAny_call (codeAny_mono (F X.A X.stack s1 H1 us vs Q (E σ) hr I1.env0 r q) fun r s' hq => ?_)
  cases r with
  | error e => exact hx σ pins H1 s1 e s' I1 hq
  | ok fl =>
    cases fl with
    | ret u => exact I1.after hq
    | next => exact False.elim hq
    | brk => exact False.elim hq
    | cont => exact False.elim hq
/-- f(..), that raises -/
theorem s_exprZ (c : CalZ X.prog X.w X.K X.mg X.base k x Ps C) (tk : Takes X W) (hr : Room j X.A) (hk : k ≤ j) (hg : Gl X x) (ha : TyA X (e :: es) G [] Ps) (hW : ∀ t Hf H, Same H0 Hf → OkS G t Hf → OkM [] Hf H → W (.ref C) none t H)
    (hs : swapsWith (.Call (.Name x p) (e :: es) [] pos) none pos2.line X.env = pure false := by rfl)
    (hdb : (x == ("__debug__" : Str)) = false := by decide) (he : starEach (e :: es) X.env = (false, eval e X.env) :: starEach es X.env := by rfl) (hpl : (backTo pos (starEach es X.env)).any (·.1) = false := by rfl) :
    SOk X (.Expr (.Call (.Name x p) (e :: es) [] pos) pos2 :: rest) H0 G [] D := by
  obtain ⟨f, F, hm, kp⟩ := c.ex
  exact s_cons (ps_expr (pe_callRS F (hr.mono hk) hg hm kp (passAt tk) ha hdb he hpl) hs) fun t Hf H s ok m => ⟨Hf, ok, m, fun vs Hf' H' s' m' its => by
    have e := m'.nil
    subst e
    exact ⟨its, fun H2 s2 => hW _ _ _ ((s.trans s').trans s2) ((ok.mono s').mono s2) (okm_nil _)⟩⟩
/-- raise X('m') -/
theorem s_raise {bmB : List Value} {B newId initId : String} {m : Str} {jj : Nat} {p2 : Pos} (F : ExcBaseFacts B newId initId bmB) (q : PySem.W.excIn X.K C bmB newId = true) (gC : X.mg x = some (.ref C)) (kC : PySem.W.keepIn X.K (.ref C) = true) (r : Raises X (.ref C)) (hg : Gl X x) (tk : Takes X W)
    (hW : ∀ t Hf H, Same H0 Hf → OkS G t Hf → OkM M Hf H → W (.ref C) none t H) (hc : X.calm = true := by rfl) (hdb : (x == ("__debug__" : Str)) = false := by decide) : SOk X (.Raise (some (.Call (.Name x p) [.Constant (.str m) jj p2] [] pos)) none pos2 :: rest) H0 G M D :=
  s_cons (ps_raise hc tk (pmk_own F q gC kC r hg hdb)) fun t Hf H s ok m => hW t Hf H s ok m
/-- the end of a suite -/
theorem s_endX {X0 : Cx} (h : SOk X0 rest H0 G M D) {D' : Ends} (hD : D'.nx = Go X0 rest D) : SOk X [] H0 G M D' := s_nil fun t Hf H s o m => by rw [hD]; exact h t Hf H s o m
/-- try: .. except X: .. -/
theorem s_try {x : Str} {c : Value} {body suite : List Stmt} {b₀ : Stmt} {np pos' : Pos} (hs : X.stack = X.env :: X.outer) (hf : X.env.frame = some X.env.locals) (hc : Names X x c) (hm : PySem.W.exmOne X.K (.ref C) c = some true) (tk : Takes X W)
    (hb : ∀ (W' : WX) (pn : List (Addr × Obj)) (xe : Value → Shared → Prop), Takes (X.tr pn xe) W' → PassesOwn (model X.prog X.w) X.A X.env xe → (∀ t Hf H, Same H0 Hf → OkS G t Hf → OkM M Hf H → W' (.ref C) none t H) → SOk (X.tr pn xe) body H0 G M { D with nx := Go X rest D })
    (hsu : ∀ (a : Addr) (oe : Obj) (pn : List (Addr × Obj)), Zc (.ref C) none oe → (∃ vs, oe.data = .fields vs) → SOk (X.suite a ((a, oe) :: pn)) (b₀ :: suite) H0 G M { D with nx := Go X rest D }) :
    SOk X (.Try body [.ExceptHandler (some (.Name x np)) none (b₀ :: suite) pos'] [] [] pos :: rest) H0 G M D := by
  refine s_cons (ps_try_only (tb := fun W' D t H => ∀ (pn : List (Addr × Obj)) (xe : Value → Shared → Prop), Takes (X.tr pn xe) W' → PassesOwn (model X.prog X.w) X.A X.env xe → Go (X.tr pn xe) body D t H) (ts := fun a cls d D t H => ∀ (oe : Obj) (pn : List (Addr × Obj)), Zc cls d oe → (∃ vs, oe.data = .fields vs) → Go (X.suite a ((a, oe) :: pn)) (b₀ :: suite) D t H) hs hf hc tk (fun W' pn xe tk' po => ⟨fun pins s t H D I h => h pn xe tk' po pins s I⟩) fun a oe cls d pn hz hv => ⟨fun pins s t H D I h => h oe pn hz hv pins s I⟩) fun t Hf H s ok m => ?_
  intro pn xe tk' po
  refine hb _ pn xe tk' po (fun t2 Hf2 H2 s2 ok2 m2 => ⟨true, hm, fun _ a na oe pn2 hz hv => hsu a oe pn2 hz hv t2 Hf2 H2 s2 ok2 m2, fun z => absurd z (by decide)⟩) t Hf H s ok m
end
section
variable {P : Program} {w : World} {K : PySem.W.Frag} {mg : Str → Option Value} {base : Heap} {x qual : Str} {params : Arguments} {body : List Stmt} {scope : Scope} {dvs : List V} {kws : List (Str × V)} {f C : Addr} {fd : FuncData} {N ps : List Str} {k : Nat} {Ps : List VP} {R : VP} {pv : Str}
abbrev cxX (P : Program) (w : World) (K : PySem.W.Frag) (mg : Str → Option Value) (base : Heap) (N : List Str) (qual : Str) (scope : Scope) (f : Addr) (cdv : Value) (A : Around) (outer : List Env) (s : Shared) (H : Hp) (E : XK) : Cx := cxOf (L2.CX P w) P w K mg base N qual scope f cdv A outer s H E
theorem fn_Z (F : FunD K x qual params body scope dvs kws f fd) (S : FnScope N ps scope) (hl : Ps.length = ps.length)
    (hb : ∀ (cdv : Value) (A : Around) (outer : List Env) (s : Shared) (H : Hp) (E : XK) (D : Ends), Room k (A.deeper (PyProof.Rows.envOfC qual scope s.heap.objs.size f cdv)) → Takes (cxX P w K mg base N qual scope f cdv A outer s H E) (fun cls d _ H => E cls d H) → PassesOwn (model P w) (cxX P w K mg base N qual scope f cdv A outer s H E).A (cxX P w K mg base N qual scope f cdv A outer s H E).env (cxX P w K mg base N qual scope f cdv A outer s H E).xe → (∀ H', Same H H' → E (.ref C) none H') →
      SOk (cxX P w K mg base N qual scope f cdv A outer s H E) body H (startC N.length Ps) [] D) : FnOk P w K mg base (L2.CX P w) (k + 1) f fd ps (spZ C Ps) :=
  FunD.ok F S (fun vs H Q E h => by rw [h.1.len, hl]) fun cdv A outer s H vs Q E hr h =>
    ⟨_, go_pss, hb cdv A outer s H E _ hr (takes_of rfl rfl rfl rfl) (passes_of rfl) h.2 _ H H (Same.refl H) (okS_start h.1) (okm_nil H)⟩
theorem fn_ZR (F : FunD K x qual params body scope [] [] f fd) (S : FnScope N [pv] scope) (hl : Ps.length ≤ 100)
    (hbd : ∀ (kV doc pm : Value) (an : Option Addr) (cdv ct : Value) (rest : List Value), bindArgs (PySem.W.fnOf x qual params body scope .none kV doc pm an cdv ct) ⟨rest, []⟩ = (newTuple rest >>= fun t => pure [(pv, t)]))
    (hb : ∀ (cdv : Value) (A : Around) (outer : List Env) (s : Shared) (H : Hp) (E : XK) (D : Ends), Room k (A.deeper (PyProof.Rows.envOfC qual scope s.heap.objs.size f cdv)) → Takes (cxX P w K mg base N qual scope f cdv A outer s H E) (fun cls d _ H => E cls d H) → PassesOwn (model P w) (cxX P w K mg base N qual scope f cdv A outer s H E).A (cxX P w K mg base N qual scope f cdv A outer s H E).env (cxX P w K mg base N qual scope f cdv A outer s H E).xe → (∀ H', Same H H' → E (.ref C) none H') →
      SOk (cxX P w K mg base N qual scope f cdv A outer s H E) body H (startC N.length [vTu Ps]) [] D) : FnR P w K mg base (L2.CX P w) (k + 1) f (spZ C Ps) := by
  obtain ⟨oc, od, dV, kV, doc, pm, an, cdv, ct, osl, rfl, lk, hcd, hD, _⟩ := F.ex
  obtain ⟨_, rfl⟩ | ⟨e, _⟩ := hD
  rotate_left
  · exact absurd rfl e
  refine FnR.imp (StX.fn_star (sp := spZ C [vTu Ps]) (ps := []) lk hcd S StX.cxUp (fun us rest hu => ?_) fun A outer s H vs Q E hr h => ⟨_, go_pss, hb cdv A outer s H E _ hr (takes_of rfl rfl rfl rfl) (passes_of rfl) h.2 _ H H (Same.refl H) (okS_start h.1) (okm_nil H)⟩) fun vs H Q E ⟨its, q⟩ => ⟨[], vs, rfl, rfl, by rw [its.len]; exact Nat.le_trans hl (by decide), fun p hp => ⟨⟨⟨p, vs, rfl, upd_same, its.mono (same_upd hp)⟩, trivial⟩, fun H' s => q H' ((same_upd hp).trans s)⟩⟩
  cases us with
  | nil => exact hbd kV doc pm an cdv ct rest
  | cons _ _ => exact absurd hu (by simp)
theorem mk_calZ (F : FnOk P w K mg base (L2.CX P w) k f fd ps (spZ C Ps)) (hm : mg x = some (.ref f)) (hk : PySem.W.keepIn K (.ref f) = true) (hb : Binds K fd ps []) : CalZ P w K mg base k x Ps C :=
  ⟨f, (F.raw hb .nil).imp fun vs H Q E h => spZ_nil h, hm, hk⟩
end
end K31
set_option Elab.async false
set_option linter.all false
set_option maxRecDepth 100000
set_option maxHeartbeats 2000000
/-! W27: the closures refuse zero operators. -/
namespace K31
open PySem PySem.Spec L2
theorem atP_vO {K : PySem.W.Frag} {As : List (List RF)} {k : Nat} (hk : k < As.length) : atP (As.map (vO K)) k = vO K (As.getD k []) := by
  unfold atP
  rw [List.getD_eq_getElem?_getD, List.getElem?_map, List.getElem?_eq_getElem hk, List.getD_eq_getElem?_getD, List.getElem?_eq_getElem hk]
  rfl
section
variable {P : Program} {w : World} {K : PySem.W.Frag} {mg : Str → Option Value} {base : Heap}
theorem check_z (V : Ev P K mg) (As : List (List RF)) (hl : As.length ≤ 100) (i0 : Nat) (hi : i0 < As.length) (hz : As.getD i0 [] = []) (h0 : ∀ k, k < i0 → As.getD k [] ≠ []) : CalZ P w K mg base 3 "check" (As.map (vO K)) (He.ga K "ZeroDivisor") := by
  obtain ⟨fd, F⟩ := V.W.fd_check
  have nd := sc_check.nd
  obtain ⟨x1, x2, x3, x4⟩ := He.exc_ok V.W.xc_ZeroDivisor
  refine ⟨_, fn_ZR F sc_check (by rw [List.length_map]; exact hl) (fun kV doc pm an cdv ct rest => by cases rest <;> rfl) fun cdv A' outer s H E D hr tk po q => ?_, V.W.gl_check, F.kp⟩
  refine s_for (I := Unit) (pit_n (pi_seq (e_sqT (e_nm (P := vTu (As.map (vO K))) 0))) (show _ = As.length by rw [List.length_map])) (pg_name (i := 1) nd rfl (Or.inl rfl)) (fun i G => G.set 1 (some (atP (As.map (vO K)) i))) (go_name 1) (fun k _ => k ≤ i0) (fun _ _ => [some (vTu (As.map (vO K))), none]) (fun _ _ => []) () (Nat.zero_le _) ⟨rfl, trivial⟩ rfl (fun Hb k _ sm hk hg => ?_) (fun Hb _ sm hg => absurd hi (by omega)) po
  rw [atP_vO hk]
  refine s_if (k := decide (As.getD k [] = [])) (t_val (e_mth0 (ks := ["coefficients"]) (O_is_zero V (As.getD k [])) rfl (by decide) hr (by omega) (e_nm (P := vO K (As.getD k [])) 1))) (fun hk2 => ?_) fun hk2 => ?_
  · exact s_raise PySem.F.excBase_ValueError x1 V.W.gc_ZeroDivisor x2 (raises_own x3 x4) rfl tk fun t Hf H2 s2 ok m => q H2 (sm.trans (s2.trans m.same))
  · have hk3 := of_decide_eq_false hk2
    have hne : k ≠ i0 := fun e => hk3 (e ▸ hz)
    refine s_end ?_ rfl
    exact nx_ok () (show k + 1 ≤ i0 by omega) rfl ⟨rfl, trivial⟩ rfl
theorem check1z (V : Ev P K mg) : CalZ P w K mg base 3 "check" [vO K []] (He.ga K "ZeroDivisor") := check_z V [[]] (show (1 : Nat) ≤ 100 by decide) 0 (show (0 : Nat) < 1 by decide) rfl (fun k hk => absurd hk (Nat.not_lt_zero _))
theorem check2z (V : Ev P K mg) (A B : List RF) (h : A = [] ∨ (A ≠ [] ∧ B = [])) : CalZ P w K mg base 3 "check" [vO K A, vO K B] (He.ga K "ZeroDivisor") := by
  rcases h with rfl | ⟨hA, rfl⟩
  · exact check_z V [[], B] (show (2 : Nat) ≤ 100 by decide) 0 (show (0 : Nat) < 2 by decide) rfl (fun k hk => absurd hk (Nat.not_lt_zero _))
  · exact check_z V [A, []] (show (2 : Nat) ≤ 100 by decide) 1 (show (1 : Nat) < 2 by decide) rfl (fun k hk => by
      obtain rfl : k = 0 := by omega
      exact hA)
theorem of_sum_z (V : Ev P K mg) (A B : List RF) (h : A = [] ∨ (A ≠ [] ∧ B = [])) : CalZ P w K mg base 10 "of_sum" [vO K A, vO K B] (He.ga K "ZeroDivisor") := by
  obtain ⟨fd, F⟩ := V.W.fd_of_sum
  refine mk_calZ (fn_Z F sc_of_sum rfl fun cdv A' outer s H E D hr tk po q => ?_) V.W.gl_of_sum F.kp (b2 F)
  exact s_exprZ (check2z V A B h) tk hr (by omega) rfl (a_cons (e_nm 0) (a_cons (e_nm 1) a_nil)) fun t Hf H2 s2 ok m => q H2 (s2.trans m.same)
theorem of_product_z (V : Ev P K mg) (A B : List RF) (h : A = [] ∨ (A ≠ [] ∧ B = [])) : CalZ P w K mg base 10 "of_product" [vO K A, vO K B] (He.ga K "ZeroDivisor") := by
  obtain ⟨fd, F⟩ := V.W.fd_of_product
  refine mk_calZ (fn_Z F sc_of_product rfl fun cdv A' outer s H E D hr tk po q => ?_) V.W.gl_of_product F.kp (b2 F)
  exact s_exprZ (check2z V A B h) tk hr (by omega) rfl (a_cons (e_nm 0) (a_cons (e_nm 1) a_nil)) fun t Hf H2 s2 ok m => q H2 (s2.trans m.same)
theorem of_image_z (V : Ev P K mg) (B : List RF) : CalZ P w K mg base 10 "of_image" [vO K [], vO K B] (He.ga K "ZeroDivisor") := by
  obtain ⟨fd, F⟩ := V.W.fd_of_image
  refine mk_calZ (fn_Z F sc_of_image rfl fun cdv A' outer s H E D hr tk po q => ?_) V.W.gl_of_image F.kp (b2 F)
  exact s_exprZ (check1z V) tk hr (by omega) rfl (a_cons (e_nm 0) a_nil) fun t Hf H2 s2 ok m => q H2 (s2.trans m.same)
theorem of_power_z (V : Ev P K mg) (k most : Int) : ∃ fd, FunD K "of_power" "of_power" (defArgs st_of_power) (defBody st_of_power) (defScope st_of_power) [] [("most", .int 60)] (He.fAd K ("of_power", none)) fd ∧ FnOk P w K mg base (L2.CX P w) 10 (He.fAd K ("of_power", none)) fd p_of_power (spZ (He.ga K "ZeroDivisor") [vO K [], vI k, vI most]) := by
  obtain ⟨fd, F⟩ := V.W.fd_of_power
  refine ⟨fd, F, fn_Z F sc_of_power rfl fun cdv A' outer s H E D hr tk po q => ?_⟩
  exact s_exprZ (check1z V) tk hr (by omega) rfl (a_cons (e_nm 0) a_nil) fun t Hf H2 s2 ok m => q H2 (s2.trans m.same)
end
end K31
set_option Elab.async false
set_option linter.all false
set_option maxRecDepth 100000
set_option maxHeartbeats 2000000
/-! W28: how of_power is called. -/
namespace K31
open PySem PySem.Spec L2
section
variable {P : Program} {w : World} {K : PySem.W.Frag} {mg : Str → Option Value} {base : Heap}
theorem power_binds {f : Addr} {fd : FuncData} (F : FunD K "of_power" "of_power" (defArgs st_of_power) (defBody st_of_power) (defScope st_of_power) [] [("most", .int 60)] f fd) : ∃ ds, Vals [V.int 60] ds ∧ Binds K fd p_of_power ds :=
  F.binds0 2 (by simp) rfl fun D doc pm an cdv ct us ks h1 h2 => match us, h1, ks, h2 with
    | [a, b], _, [m], _ => ⟨_, _, _, _, _, _, rfl, rfl, rfl⟩
theorem of_power_d1 (V : Ev P K mg) (A : List RF) (k : Nat) (u : RF) (R : List RF) (h : OkPw1 A k u R) : CalT P w K mg base 67 "of_power" ([vO K A, vI (k : Int)] ++ [vI 60]) [.int 60] (vO K R) := by
  obtain ⟨fd, F, ok⟩ := of_power_1 (w := w) (base := base) V A k 60 u R h (by omega)
  obtain ⟨ds, r, b⟩ := power_binds F
  exact ⟨_, fd, _, ds, ok, V.W.gl_of_power, F.kp, b, r⟩
theorem of_power_d0 (V : Ev P K mg) (A : List RF) (k : Nat) (R : List RF) (h : OkPw0 A k R) : CalT P w K mg base 67 "of_power" ([vO K A, vI ((k + 1 : Nat) : Int)] ++ [vI 60]) [.int 60] (vO K R) := by
  obtain ⟨fd, F, ok⟩ := of_power_0 (w := w) (base := base) V A k 60 R h (by omega)
  obtain ⟨ds, r, b⟩ := power_binds F
  exact ⟨_, fd, _, ds, ok, V.W.gl_of_power, F.kp, b, r⟩
theorem of_power_dz (V : Ev P K mg) (k : Int) : CalZ P w K mg base 10 "of_power" [vO K [], vI k] (He.ga K "ZeroDivisor") := by
  obtain ⟨fd, F, ok⟩ := of_power_z (w := w) (base := base) V k 60
  obtain ⟨ds, r, b⟩ := power_binds F
  exact ⟨_, (ok.raw b r).imp fun vs H Q E h => ⟨h.1.append (Qs := [vI 60]) ⟨rfl, trivial⟩, h.2⟩, V.W.gl_of_power, F.kp⟩
theorem power_kbn {f : Addr} {fd : FuncData} (F : FunD K "of_power" "of_power" (defArgs st_of_power) (defBody st_of_power) (defScope st_of_power) [] [("most", .int 60)] f fd) : KBn K fd p_of_power 2 ["most"] (fun us ws => us ++ ws) (fun vs zs => vs ++ zs) := by
  obtain ⟨oc, od, dV, kV, doc, pm, an, cdv, ct, osl, rfl, lk, hcd, hD, hK⟩ := F.ex
  rcases hD with ⟨_, rfl⟩ | ⟨e, _⟩
  · refine ⟨fun s us ws X l1 l2 => ?_, fun r1 r2 => r1.append r2⟩
    match us, l1, ws, l2 with
    | [a, b], _, [m], _ => exact .of_eq rfl
  · exact absurd rfl e
end
end K31
set_option Elab.async false
set_option linter.all false
set_option maxRecDepth 100000
set_option maxHeartbeats 2000000
/-! W29: _law_is_refused. -/
namespace K31
open PySem PySem.Spec L2
section
variable {P : Program} {w : World} {K : PySem.W.Frag} {mg : Str → Option Value} {base : Heap}
theorem is_refused_c (V : Ev P K mg) (A : List RF) (hA : A ≠ []) : CalT P w K mg base 48 "_law_is_refused" [vO K A] [] (vB true) := by
  obtain ⟨fd, F⟩ := V.W.fd_law_is_refused
  have nd := sc_law_is_refused.nd
  refine mk_cal (fn_V F sc_law_is_refused rfl fun cdv A' outer s H E Q hr q => ?_) V.W.gl_law_is_refused F.kp (b1 F)
  refine s_asg 1 (P := vO K []) (e_mk (O_mk V []) hr (by omega) rfl (a_cons (e_sqT (e_tup a_nil (show (0 : Nat) ≤ 100 by decide))) a_nil)) ?_ nd
  refine s_asg 2 (P := vI ((0 : Nat) : Int)) (e_int (i := 0)) ?_ nd
  refine s_for (I := Unit) (pit_n (p_range1 (i := 6) e_int (by omega) (by omega) rfl V.W.fr_range) (show _ = 6 by rfl)) (pg_name (i := 3) nd rfl (Or.inl rfl)) (fun i G => G.set 3 (some (vI (0 + (i : Nat))))) (go_name 3) (fun _ _ => True) (fun k _ => [some (vO K A), some (vO K []), some (vI ((k : Nat) : Int)), none]) (fun _ _ => []) () trivial ⟨rfl, rfl, rfl, trivial⟩ rfl (fun Hb k _ sm hk _ => ?_) (fun Hb _ sm _ => ?_) .never
  · have ek : (0 : Int) + (k : Nat) = ((k : Nat) : Int) := by omega
    rw [ek]
    refine s_try (W := fun _ _ _ _ => False) rfl rfl ⟨rfl, by decide, Or.inl V.W.gc_ZeroDivisor⟩ (He.exm_ok V.W.xm_ZZ) (fun _ _ ⟨_, _, _, _, _, _, _, _, _, _, _, _, _, _, _, _, w⟩ => w.elim) (fun W' pn xe tk po hW => ?_) fun a oe pn hz hv => ?_
    · refine s_if (k := decide (((k : Nat) : Int) = 0)) (t_cmp (e_nm (P := vI ((k : Nat) : Int)) 3) e_int o_eq) (fun _ => s_exprZ (of_sum_z V [] A (.inl rfl)) tk hr (by omega) rfl (a_cons (e_nm (P := vO K []) 1) (a_cons (e_nm (P := vO K A) 0) a_nil)) hW) fun h0 => s_end ?_ rfl
      refine s_if (k := decide (((k : Nat) : Int) = 1)) (t_cmp (e_nm (P := vI ((k : Nat) : Int)) 3) e_int o_eq) (fun _ => s_exprZ (of_sum_z V A [] (.inr ⟨hA, rfl⟩)) tk hr (by omega) rfl (a_cons (e_nm (P := vO K A) 0) (a_cons (e_nm (P := vO K []) 1) a_nil)) hW) fun h1 => s_end ?_ rfl
      refine s_if (k := decide (((k : Nat) : Int) = 2)) (t_cmp (e_nm (P := vI ((k : Nat) : Int)) 3) e_int o_eq) (fun _ => s_exprZ (of_product_z V A [] (.inr ⟨hA, rfl⟩)) tk hr (by omega) rfl (a_cons (e_nm (P := vO K A) 0) (a_cons (e_nm (P := vO K []) 1) a_nil)) hW) fun h2 => s_end ?_ rfl
      refine s_if (k := decide (((k : Nat) : Int) = 3)) (t_cmp (e_nm (P := vI ((k : Nat) : Int)) 3) e_int o_eq) (fun _ => s_exprZ (of_product_z V [] A (.inl rfl)) tk hr (by omega) rfl (a_cons (e_nm (P := vO K []) 1) (a_cons (e_nm (P := vO K A) 0) a_nil)) hW) fun h3 => s_end ?_ rfl
      refine s_if (k := decide (((k : Nat) : Int) = 4)) (t_cmp (e_nm (P := vI ((k : Nat) : Int)) 3) e_int o_eq) (fun _ => s_exprZ (of_power_dz V 2) tk hr (by omega) rfl (a_cons (e_nm (P := vO K []) 1) (a_cons e_int a_nil)) hW) fun h4 => s_end ?_ rfl
      refine s_if (k := decide (((k : Nat) : Int) = 5)) (t_cmp (e_nm (P := vI ((k : Nat) : Int)) 3) e_int o_eq) (fun _ => s_exprZ (of_image_z V A) tk hr (by omega) rfl (a_cons (e_nm (P := vO K []) 1) (a_cons (e_nm (P := vO K A) 0) a_nil)) hW) fun h5 => ?_
      have h0 := of_decide_eq_false h0
      have h1 := of_decide_eq_false h1
      have h2 := of_decide_eq_false h2
      have h3 := of_decide_eq_false h3
      have h4 := of_decide_eq_false h4
      have h5 := of_decide_eq_false h5
      omega
    · refine s_asg 2 (P := vI ((k + 1 : Nat) : Int)) (e_eq (e_bin (e_nm (P := vI ((k : Nat) : Int)) 2) (e_int (i := 1)) o_add) (show vI _ = vI ((k + 1 : Nat) : Int) by congr 1)) ?_ nd
      refine s_endX ?_ rfl
      exact nx_ok () trivial rfl ⟨rfl, rfl, rfl, trivial⟩ rfl
  · exact s_retV (e_eq (e_cmp (e_nm (P := vI ((6 : Nat) : Int)) 2) (e_int (i := 6)) o_eq) (show vB _ = vB true by congr 1)) rfl fun v2 H2 s2 p2 => q v2 H2 (sm.trans s2) p2
end
end K31
set_option Elab.async false
set_option linter.all false
set_option maxRecDepth 100000
set_option maxHeartbeats 2000000
/-! T13: a def that gives a new list to be changed; items of a changed list that are known to exist only; a % b. -/
namespace K31
open PySem PySem.Spec L2
/-- a promise that gives a new list, to be changed -/
def spN (Ps Rs : List VP) : Sp := fun vs H Q _ => Items Ps vs H ∧ ∀ ad Hf' H', Same H Hf' → OkM [.l ad Rs] Hf' H' → Q (.ref ad) H'
structure CalN (P : Program) (w : World) (K : PySem.W.Frag) (mg : Str → Option Value) (base : Heap) (k : Nat) (x : Str) (Ps : List VP) (Rs : List VP) : Prop where
  ex : ∃ (f : Addr) (fd : FuncData) (ps : List Str), FnOk P w K mg base CX0 k f fd ps (spN Ps Rs) ∧ mg x = some (.ref f) ∧ PySem.W.keepIn K (.ref f) = true ∧ Binds K fd ps []
section
variable {X : Cx} {k j : Nat} {x : Str} {p pos : Pos} {e : Expr} {es : List Expr} {G : Ctx} {M : MCtx} {Ps Rs : List VP} {H0 : Hp} {D : Ends} {rest : List Stmt}
theorem n_call (c : CalN X.prog X.w X.K X.mg X.base k x Ps Rs) (hr : Room j X.A) (hk : k ≤ j) (hg : Gl X x) (ha : TyA X (e :: es) G [] Ps)
    (hdb : (x == ("__debug__" : Str)) = false := by decide) (he : starEach (e :: es) X.env = (false, eval e X.env) :: starEach es X.env := by rfl) (hpl : (backTo pos (starEach es X.env)).any (·.1) = false := by rfl) :
    TyN X (.Call (.Name x p) (e :: es) [] pos) G [] Rs := by
  obtain ⟨f, fd, ps, F, hm, kp, b⟩ := c.ex
  refine PE.imp (pe_call (dvs := []) F (hr.mono hk) hg hm kp b .nil pass0 ha hdb he hpl) fun t H Q ⟨Hf, ok, m, q⟩ => ⟨Hf, ok, m, fun vs Hf' H' s m' its => ?_⟩
  have e := m'.nil
  subst e
  exact ⟨by rw [List.append_nil]; exact its, fun ad Hf2 H2 s2 m2 => q ad Hf2 H2 (s.trans s2) m2⟩
theorem s_retL (he : TyN X e G M Rs) (k : ∀ ad Hf H, Same H0 Hf → OkM (.l ad Rs :: M) Hf H → D.rt (.ref ad) H) : SOk X (.Return (some e) pos :: rest) H0 G M D :=
  s_last (ps_ret he) fun t Hf H s o m => ⟨Hf, o, m, fun ad Hf' H' s' m' => k ad Hf' H' (s.trans s') m'⟩
theorem o_mod {i j : Int} (hj : 0 < j) : OpT X (binaryOp .Mod) (vI i) (vI j) (vI (i % j)) := opT_of op_mod fun x y H e e' Q q => ⟨i, j, e, e', hj, q _ H (Same.refl H) rfl⟩
end
section
variable {P : Program} {w : World} {K : PySem.W.Frag} {mg : Str → Option Value} {base : Heap} {x qual : Str} {params : Arguments} {body : List Stmt} {scope : Scope} {dvs : List V} {kws : List (Str × V)} {f : Addr} {fd : FuncData} {N ps : List Str} {k : Nat} {Ps Rs : List VP}
theorem fn_N (F : FunD K x qual params body scope dvs kws f fd) (S : FnScope N ps scope) (hl : Ps.length = ps.length)
    (hb : ∀ (cdv : Value) (A : Around) (outer : List Env) (s : Shared) (H : Hp) (E : XK) (Q : VK), Room k (A.deeper (PyProof.Rows.envOfC qual scope s.heap.objs.size f cdv)) → (∀ ad Hf' H', Same H Hf' → OkM [.l ad Rs] Hf' H' → Q (.ref ad) H') →
      SOk (cx0 P w K mg base N qual scope f cdv A outer s H E) body H (startC N.length Ps) [] { nx := fun _ H' => Q .non H', rt := Q }) : FnOk P w K mg base CX0 (k + 1) f fd ps (spN Ps Rs) :=
  FunD.ok F S (fun vs H Q E h => by rw [h.1.len, hl]) fun cdv A outer s H vs Q E hr h =>
    ⟨_, PSs.nox go_pss, hb cdv A outer s H E Q hr h.2 _ H H (Same.refl H) (okS_start h.1) (okm_nil H)⟩
end
end K31
set_option Elab.async false
set_option linter.all false
set_option maxRecDepth 100000
set_option maxHeartbeats 2000000
/-! W30: _law_take. -/
namespace K31
open PySem PySem.Spec L2
def seedOk (i : Int) : Prop := 0 ≤ i ∧ ∃ b, b ≤ 4000000 ∧ i.natAbs < 2 ^ b
def totOk (i : Int) : Prop := 0 ≤ i ∧ i < 2147483647
def vSd : VP := vEx vI seedOk
def vTt : VP := vEx vI totOk
def vTk (m : Int) : VP := vEx vI (fun i => 0 ≤ i ∧ i < m)
abbrev Mst (ad : Addr) : MCtx := [.l ad [vSd, vTt]]
theorem okst_open {ad : Addr} {Hf H : Hp} (h : OkM (Mst ad) Hf H) : ∃ a b, seedOk a ∧ totOk b ∧ OkM [.l ad [vI a, vI b]] Hf H := by
  obtain ⟨L, e, f, mi⟩ := h
  match L, mi with
  | [.l c xs], mi =>
    obtain ⟨⟨e1, its⟩, mm⟩ := mi
    obtain ⟨x, y, rfl, ⟨a, ga, pa⟩, ⟨b, gb, pb⟩⟩ := it2 its
    exact ⟨a, b, ga, gb, _, e, f, ⟨e1, pa, pb, trivial⟩, mm⟩
  | .l c xs :: _ :: _, mi => exact mi.2.elim
  | .i _ _ _ _ :: _, mi => exact mi.1.elim
theorem okst_close {ad : Addr} {Hf H : Hp} {a b : Int} (ga : seedOk a) (gb : totOk b) (h : OkM [.l ad [vI a, vI b]] Hf H) : OkM (Mst ad) Hf H := by
  obtain ⟨L, e, f, mi⟩ := h
  match L, mi with
  | [.l c xs], mi =>
    obtain ⟨⟨e1, its⟩, mm⟩ := mi
    obtain ⟨x, y, rfl, pa, pb⟩ := it2 its
    exact ⟨_, e, f, ⟨e1, ⟨a, ga, pa⟩, ⟨b, gb, pb⟩, trivial⟩, mm⟩
  | .l c xs :: _ :: _, mi => exact mi.2.elim
  | .i _ _ _ _ :: _, mi => exact mi.1.elim
theorem seed_div {a m : Int} (ha : seedOk a) (hm : 0 < m) : seedOk (a.fdiv m) := by
  obtain ⟨h0, b, hb, hl⟩ := ha
  rw [Int.fdiv_eq_ediv_of_nonneg _ (by omega)]
  have h1 : 0 ≤ a / m := Int.ediv_nonneg h0 (by omega)
  have h2 : a / m ≤ a := Int.ediv_le_self m h0
  exact ⟨h1, b, hb, Nat.lt_of_le_of_lt (by omega) hl⟩
theorem tot_ok (x : Int) : totOk (x % 2147483647) := ⟨Int.emod_nonneg _ (by decide), Int.emod_lt_of_pos _ (by decide)⟩
section
variable {P : Program} {w : World} {K : PySem.W.Frag} {mg : Str → Option Value} {base : Heap}
theorem take_c (V : Ev P K mg) (ad : Addr) (m : Int) (hm : 0 < m) : CalM P w K mg base 40 "_law_take" (Mst ad) [vAt ad, vI m] (Mst ad) (vTk m) := by
  obtain ⟨fd, F⟩ := V.W.fd_law_take
  have nd := sc_law_take.nd
  refine ⟨_, fd, _, fn_M F sc_law_take rfl fun cdv A' outer s H Hf E Q hr q => ?_, V.W.gl_law_take, F.kp, b2 F⟩
  have D := divOk0 (w := w) (base := base) (outer := outer) (H := H) (E := E) V sc_law_take hr (by omega)
  refine fun t Hg Hh s0 o m0 => ?_
  obtain ⟨a, b, ga, gb, m1⟩ := okst_open m0
  revert t Hg Hh s0 o m0 m1
  suffices hh : SOk (cx0 P w K mg base N_law_take "_law_take" (defScope st_law_take) (He.fAd K ("_law_take", none)) cdv A' outer s H E) (defBody st_law_take) Hf (startC N_law_take.length [vAt ad, vI m]) [.l ad [vI a, vI b]] { nx := fun _ H' => Q .non H', rt := Q } from fun t Hg Hh s0 o _ m1 => hh t Hg Hh s0 o m1
  refine s_if (k := decide (0 < a)) (t_cmp (e_ixM 0 (i := 0) (P := vI a) rfl (e_nm (P := vAt ad) 0) e_int rfl) (e_int (i := 0)) o_gt) (fun _ => ?_) fun _ => s_end ?_ rfl
  · refine s_asg 2 (P := vI (a % m)) (e_bin (e_bty c_int rfl V.W.fr_int PyProof.Rows.boot_int (a_cons (e_ixM 0 (i := 0) (P := vI a) rfl (e_nm (P := vAt ad) 0) e_int rfl) a_nil)) (e_nm (P := vI m) 1) (o_mod hm)) ?_ nd
    refine s_setL 0 (i := 0) (P := vI (a.fdiv m)) rfl (e_bin (e_ixM 0 (i := 0) (P := vI a) rfl (e_nm (P := vAt ad) 0) e_int rfl) (e_nm (P := vI m) 1) (o_fdiv D (by omega))) (e_nm (P := vAt ad) 0) e_int (show (0 : Nat) < 2 by decide) ?_
    exact s_retM (R := vI (a % m)) (e_nm (P := vI (a % m)) 2) rfl fun v Hf' H' s' m' r => q v Hf' H' s' (okst_close (seed_div ga hm) gb m') ⟨_, ⟨Int.emod_nonneg _ (by omega), Int.emod_lt_of_pos _ hm⟩, r⟩
  · refine s_setL 0 (i := 1) (P := vI ((b * 48271 + 11) % 2147483647)) rfl (e_bin (e_bty c_int rfl V.W.fr_int PyProof.Rows.boot_int (a_cons (e_bin (e_bin (e_ixM 0 (i := 1) (P := vI b) rfl (e_nm (P := vAt ad) 0) e_int rfl) e_int (o_mul ?_)) e_int o_add) a_nil)) e_int (o_mod (by decide))) (e_nm (P := vAt ad) 0) e_int (show (1 : Nat) < 2 by decide) ?_
    · obtain ⟨h1, h2⟩ := gb
      exact mulx_ok (a := 32) (b := 32) (by omega) (by decide) (by decide)
    generalize hc : (b * 48271 + 11) % 2147483647 = c
    have gc : totOk c := hc ▸ tot_ok _
    exact s_retM (R := vI (c.fdiv 7 % m)) (e_bin (e_bty c_int rfl V.W.fr_int PyProof.Rows.boot_int (a_cons (e_bin (e_ixM 0 (i := 1) (P := vI c) rfl (e_nm (P := vAt ad) 0) e_int rfl) e_int (o_fdiv D (by decide))) a_nil)) (e_nm (P := vI m) 1) (o_mod hm)) rfl fun v Hf' H' s' m' r => q v Hf' H' s' (okst_close ga gc m') ⟨_, ⟨Int.emod_nonneg _ (by omega), Int.emod_lt_of_pos _ hm⟩, r⟩
end
end K31
set_option Elab.async false
set_option linter.all false
set_option maxRecDepth 100000
set_option maxHeartbeats 2000000
/-! T14: calls whose arguments read or change the lists that are being changed. -/
namespace K31
open PySem PySem.Spec L2
section
variable {X : Cx} {k j : Nat} {x : Str} {p pos : Pos} {e : Expr} {es : List Expr} {G : Ctx} {M : MCtx} {Ps : List VP} {R : VP} {C : Addr}
theorem e_callF (c : CalT X.prog X.w X.K X.mg X.base k x Ps [] R) (hr : Room j X.A) (hk : k ≤ j) (hg : Gl X x) (ha : TyA X (e :: es) G M Ps)
    (hdb : (x == ("__debug__" : Str)) = false := by decide) (he : starEach (e :: es) X.env = (false, eval e X.env) :: starEach es X.env := by rfl) (hpl : (backTo pos (starEach es X.env)).any (·.1) = false := by rfl) :
    TyE X (.Call (.Name x p) (e :: es) [] pos) G M R := by
  obtain ⟨f, fd, ps, ds, F, hm, kp, b, dv⟩ := c.ex
  refine ⟨fun pins s t H Q I w => ?_⟩
  obtain ⟨Hf, o, m, q⟩ := w
  refine wpAny_Call_Name_kw (ld_glob I hg hm ?_ hdb)
  refine PySem.W.callWith_K (h₀ := X.base) I.ok.mod.kin kp (thn (ha.run pos pins s t H (fun vs H1 => ∃ Hf1, Same Hf Hf1 ∧ OkM M Hf1 H1 ∧ Items Ps vs Hf1) I ⟨Hf, o, m, fun vs Hf' H' s' m' its => ⟨Hf', s', m', its⟩⟩) fun us s1 hh => ?_) he hpl
  obtain ⟨vs, H1, I1, r, Hf1, sm, m1, its⟩ := hh
  refine ⟨I1.kIn, ?_⟩
  obtain ⟨ps', I2, back⟩ := frameM I1 m1
  refine thn (run_fn (Q := fun v Hf' => Same Hf1 Hf' ∧ R.p v Hf') F (hr.mono hk) b dv pass0 I2 r (spV_nil ⟨its, fun v H' s' p => ⟨s', p⟩⟩)) fun u s' hh => ?_
  obtain ⟨v, Hf2, I3, r3, sm2, p3⟩ := hh
  obtain ⟨H', m', I4⟩ := back _ _ _ sm2 I3
  exact ⟨v, H', I4, r3, q v Hf2 H' (sm.trans sm2) m' p3⟩
theorem items_nil {Ps : List VP} {vs : List V} {H : Hp} (h : Items Ps vs H) : Items Ps (vs ++ []) H := by
  rw [List.append_nil]
  exact h
theorem e_mkF (c : MakT X.prog X.w X.K X.mg X.base k x C Ps [] R) (hr : Room j X.A) (hk : k + 1 ≤ j) (hg : Gl X x) (ha : TyA X (e :: es) G M Ps)
    (hdb : (x == ("__debug__" : Str)) = false := by decide) (he : starEach (e :: es) X.env = (false, eval e X.env) :: starEach es X.env := by rfl) (hpl : (backTo pos (starEach es X.env)).any (·.1) = false := by rfl) :
    TyE X (.Call (.Name x p) (e :: es) [] pos) G M R := by
  obtain ⟨f, fd, ps, ds, Mk, F, hm, b, dv⟩ := c.ex
  refine ⟨fun pins s t H Q I w => ?_⟩
  obtain ⟨Hf, o, m, q⟩ := w
  refine wpAny_Call_Name_kw (ld_glob I hg hm ?_ hdb)
  refine PySem.W.callWith_K (h₀ := X.base) I.ok.mod.kin Mk.kp (thn (ha.run pos pins s t H (fun vs H1 => ∃ Hf1, Same Hf Hf1 ∧ OkM M Hf1 H1 ∧ Items Ps vs Hf1) I ⟨Hf, o, m, fun vs Hf' H' s' m' its => ⟨Hf', s', m', its⟩⟩) fun us s1 hh => ?_) he hpl
  obtain ⟨vs, H1, I1, r, Hf1, sm, m1, its⟩ := hh
  refine ⟨I1.kIn, ?_⟩
  obtain ⟨ps', I2, back⟩ := frameM I1 m1
  refine thn (run_make (Q := fun v Hf' => Same Hf1 Hf' ∧ R.p v Hf') Mk F (hr.mono hk) b dv pass0 I2 r fun y dx hy hdx hne => ⟨Hf1, y, dx, vs ++ [], rfl, rfl, hy, hdx, hne, items_nil its, fun H' s' p => ⟨rfl, s', p⟩⟩) fun u s' hh => ?_
  obtain ⟨v, Hf2, I3, r3, sm2, p3⟩ := hh
  obtain ⟨H', m', I4⟩ := back _ _ _ sm2 I3
  exact ⟨v, H', I4, r3, q v Hf2 H' (sm.trans sm2) m' p3⟩
/-- C(..), the promise chosen by what the arguments turn out to be -/
theorem e_mkX (hm : X.mg x = some (.ref C)) (kp : PySem.W.keepIn X.K (.ref C) = true) (c : ∀ vs Hf, Items Ps vs Hf → ∃ Qs R', Items Qs vs Hf ∧ MakT X.prog X.w X.K X.mg X.base k x C Qs [] R' ∧ ∀ v H, R'.p v H → R.p v H) (hr : Room j X.A) (hk : k + 1 ≤ j) (hg : Gl X x) (ha : TyA X (e :: es) G M Ps)
    (hdb : (x == ("__debug__" : Str)) = false := by decide) (he : starEach (e :: es) X.env = (false, eval e X.env) :: starEach es X.env := by rfl) (hpl : (backTo pos (starEach es X.env)).any (·.1) = false := by rfl) :
    TyE X (.Call (.Name x p) (e :: es) [] pos) G M R := by
  refine ⟨fun pins s t H Q I w => ?_⟩
  obtain ⟨Hf, o, m, q⟩ := w
  refine wpAny_Call_Name_kw (ld_glob I hg hm ?_ hdb)
  refine PySem.W.callWith_K (h₀ := X.base) I.ok.mod.kin kp (thn (ha.run pos pins s t H (fun vs H1 => ∃ Hf1, Same Hf Hf1 ∧ OkM M Hf1 H1 ∧ Items Ps vs Hf1) I ⟨Hf, o, m, fun vs Hf' H' s' m' its => ⟨Hf', s', m', its⟩⟩) fun us s1 hh => ?_) he hpl
  obtain ⟨vs, H1, I1, r, Hf1, sm, m1, its⟩ := hh
  refine ⟨I1.kIn, ?_⟩
  obtain ⟨Qs, R', its2, c2, sub⟩ := c vs Hf1 its
  obtain ⟨f, fd, ps, ds, Mk, F, hm2, b, dv⟩ := c2.ex
  obtain ⟨ps', I2, back⟩ := frameM I1 m1
  refine thn (run_make (Q := fun v Hf' => Same Hf1 Hf' ∧ R.p v Hf') Mk F (hr.mono hk) b dv pass0 I2 r fun y dx hy hdx hne => ⟨Hf1, y, dx, vs ++ [], rfl, rfl, hy, hdx, hne, items_nil its2, fun H' s' p => ⟨rfl, s', sub _ _ p⟩⟩) fun u s' hh => ?_
  obtain ⟨v, Hf2, I3, r3, sm2, p3⟩ := hh
  obtain ⟨H', m', I4⟩ := back _ _ _ sm2 I3
  exact ⟨v, H', I4, r3, q v Hf2 H' (sm.trans sm2) m' p3⟩
/-- f(..), likewise -/
theorem e_callX {f : Addr} (hm : X.mg x = some (.ref f)) (kp : PySem.W.keepIn X.K (.ref f) = true) (c : ∀ vs Hf, Items Ps vs Hf → ∃ Qs R', Items Qs vs Hf ∧ CalT X.prog X.w X.K X.mg X.base k x Qs [] R' ∧ ∀ v H, R'.p v H → R.p v H) (hr : Room j X.A) (hk : k ≤ j) (hg : Gl X x) (ha : TyA X (e :: es) G M Ps)
    (hdb : (x == ("__debug__" : Str)) = false := by decide) (he : starEach (e :: es) X.env = (false, eval e X.env) :: starEach es X.env := by rfl) (hpl : (backTo pos (starEach es X.env)).any (·.1) = false := by rfl) :
    TyE X (.Call (.Name x p) (e :: es) [] pos) G M R := by
  refine ⟨fun pins s t H Q I w => ?_⟩
  obtain ⟨Hf, o, m, q⟩ := w
  refine wpAny_Call_Name_kw (ld_glob I hg hm ?_ hdb)
  refine PySem.W.callWith_K (h₀ := X.base) I.ok.mod.kin kp (thn (ha.run pos pins s t H (fun vs H1 => ∃ Hf1, Same Hf Hf1 ∧ OkM M Hf1 H1 ∧ Items Ps vs Hf1) I ⟨Hf, o, m, fun vs Hf' H' s' m' its => ⟨Hf', s', m', its⟩⟩) fun us s1 hh => ?_) he hpl
  obtain ⟨vs, H1, I1, r, Hf1, sm, m1, its⟩ := hh
  refine ⟨I1.kIn, ?_⟩
  obtain ⟨Qs, R', its2, c2, sub⟩ := c vs Hf1 its
  obtain ⟨f', fd, ps, ds, F, hm2, kp2, b, dv⟩ := c2.ex
  have ef : f = f' := by
    rw [hm] at hm2
    cases hm2
    rfl
  subst ef
  obtain ⟨ps', I2, back⟩ := frameM I1 m1
  refine thn (run_fn (Q := fun v Hf' => Same Hf1 Hf' ∧ R.p v Hf') F (hr.mono hk) b dv pass0 I2 r (spV_nil ⟨its2, fun v H' s' p => ⟨s', sub _ _ p⟩⟩)) fun u s' hh => ?_
  obtain ⟨v, Hf2, I3, r3, sm2, p3⟩ := hh
  obtain ⟨H', m', I4⟩ := back _ _ _ sm2 I3
  exact ⟨v, H', I4, r3, q v Hf2 H' (sm.trans sm2) m' p3⟩
end
end K31
set_option Elab.async false
set_option linter.all false
set_option maxRecDepth 100000
set_option maxHeartbeats 2000000
/-! T15: comprehensions of a length that is only bounded. -/
namespace K31
open PySem PySem.Spec L2
section
variable {X : Cx} {G : Ctx} {M : MCtx} {a : Expr} {pos : Pos}
def PItE (X : Cx) (tg iter : Expr) (G : Ctx) (M : MCtx) (Nm : Nat) (Yp : Nat → VP) : Prop :=
  PI X tg iter (fun t H R => ∃ Hf, OkS G t Hf ∧ OkM M Hf H ∧ ∀ n J Hf' H' F, n ≤ Nm → Same Hf Hf' → OkM M Hf' H' → F Hf' → TW J n F Yp → R J H')
theorem p_range1E {tg : Expr} {Nm : Nat} {p : Pos} (hN : Nm < 1000000) (h : TyE X a G M (vEx vI (fun i => 0 ≤ i ∧ i ≤ (Nm : Int)))) (hg : Gl X "range") (hm : X.mg "range" = none) (hs : starEach [a] X.env = [(false, eval a X.env)] := by rfl) :
    PItE X tg (.Call (.Name "range" p) [a] [] pos) G M Nm (fun l => vI (0 + (l : Nat))) :=
  PI.imp (pi_range1 hg hm (a_cons h a_nil hs) hs) fun t H R ⟨Hf, o, m, k⟩ => ⟨Hf, o, m, fun vs Hf' H' s' m' its => by
    obtain ⟨x, rfl, i, ⟨g1, g2⟩, e⟩ := it1 its
    have e : x = .int i := e
    subst e
    exact ⟨i, rfl, by omega, by omega, k i.toNat _ Hf' H' _ (by omega) s' m' trivial tw_range⟩⟩
theorem lc_readE {tg iter elt : Expr} {Nm : Nat} {Yp Zp : Nat → VP} {g : TG} {sG : Nat → Ctx → Ctx} {vs : List Nat} (hn : Nm ≤ 100000) (hgo : GoW vs Nm Yp sG g)
    {t : L2.St} {H : Hp} {Q : VK} (h : ∃ Hf, OkS G t Hf ∧ OkM M Hf H ∧ ∀ n ad Hf' H', n ≤ Nm → Same Hf Hf' → OkM (.l ad ((List.range n).map Zp) :: M) Hf' H' → Q (.ref ad) H') :
    tLc (fun t H R => ∃ Hf, OkS G t Hf ∧ OkM M Hf H ∧ ∀ n J Hf' H' F, n ≤ Nm → Same Hf Hf' → OkM M Hf' H' → F Hf' → TW J n F Yp → R J H') g tYes (fun t H Q => ∃ i, i < Nm ∧ ∃ m, rd (sG i (wipeC G vs)) (m :: M) (Zp i) t H Q) vs t H Q := by
  obtain ⟨Hf, o, m, k⟩ := h
  refine ⟨Hf, o, m, fun n J Hf' H' F hnm s' m' f w dd hdd => ?_⟩
  refine ⟨fun k mm H1 => mm = n - k ∧ k ≤ n ∧ ∃ Hg, Same Hf' Hg ∧ OkM (.l dd ((List.range k).map Zp) :: M) Hg H1, ⟨n, by simp, Nat.zero_le _, Hf', Same.refl _, m'.push hdd trivial⟩, ?_⟩
  rintro l mm H1 ⟨rfl, hl, Hg, sg, mg⟩
  have fg : F Hg := w.mono _ _ sg f
  have f1 : F H1 := w.mono _ _ mg.same fg
  by_cases hlt : l < n
  · refine .inr ⟨w.go l H1 hlt f1, fun H2 => ∃ Hg, Same Hf' Hg ∧ OkM (.l dd ((List.range (l + 1)).map Zp) :: M) Hg H2, fun H2 q => ⟨n - (l + 1), by omega, rfl, hlt, q⟩, fun x H2 y => ?_⟩
    obtain ⟨Hy, sy, my, py⟩ := w.yld _ l Hg H1 x H2 hlt fg mg y
    refine hgo l (wipeC G vs) x t Hy H2 _ (by omega) py ((((o.mono s').mono sg).mono sy).wipe vs) my.same fun t' ht' ot' => ⟨ht', ?_⟩
    unfold tYes
    dsimp only
    rw [if_pos rfl]
    refine ⟨l, by omega, .l dd ((List.range l).map Zp), Hy, ot', my, fun v Hv H3 sv mv pv => ?_⟩
    obtain ⟨xs, hx, its⟩ := mv.at_ (k := 0) rfl
    have hlen := its.len
    rw [List.length_map, List.length_range] at hlen
    refine ⟨xs, hx, ?_, Hv, (sg.trans sy).trans sv, ?_⟩
    · rw [hlen]; exact Nat.lt_of_lt_of_le (Nat.lt_of_lt_of_le hlt (Nat.le_trans hnm hn)) (by decide)
    · rw [mapR]
      exact mv.put (k := 0) rfl (its.append ⟨pv, trivial⟩)
  · have e : l = n := by omega
    subst e
    exact .inl ⟨w.stop H1 f1, k l dd Hg H1 hnm (s'.trans sg) mg⟩
/-- [elt for tg in iter] -/
theorem e_lcE {tg iter elt : Expr} {scope : Scope} {own : List (Str × Nat)} {vs : List Nat} {Nm : Nat} {Yp Zp : Nat → VP} {g : TG} {sG : Nat → Ctx → Ctx} (hi : PItE X tg iter G M Nm Yp) (hn : Nm ≤ 100000) (hN : X.N.Nodup) (ok : BlkOk X.N X.env.scope scope own) (hv : own.map (·.2) = vs) (hgo : GoW vs Nm Yp sG g)
    (hg : ∀ (s : Shared) (H : Hp) (C : Addr) (cl : List (Str × Addr)) (fp : List Addr), PG (X.blk s H scope (compEnvC scope cl C X.env) fp) tg g)
    (he : ∀ (s : Shared) (H : Hp) (C : Addr) (cl : List (Str × Addr)) (fp : List Addr) (i : Nat), i < Nm → TyE (X.blk s H scope (compEnvC scope cl C X.env) fp) elt (sG i (wipeC G vs)) M (Zp i))
    (hc : X.calm = true := by rfl) (hs : ∀ x, foldedSetIterable iter X.env x = pure x := by intro _; rfl) : TyE X (.ListComp elt [⟨tg, iter, [], 0⟩] scope pos) G M (vEx (fun n => vLs ((List.range n).map Zp)) (fun n => n ≤ Nm)) := by
  subst hv
  exact PE.imp (pe_lc hc hN hi ok hg (fun _ _ _ _ _ => pts_nil) (fun s H C cl fp => lc_eltM (he s H C cl fp)) hs) fun t H Q ⟨Hf, o, m, k⟩ => lc_readE (iter := iter) (elt := elt) (tg := tg) hn hgo ⟨Hf, o, m, fun n ad Hf' H' hnm s' m' => by
    obtain ⟨Hf2, s2, m2, p⟩ := m'.calm
    exact k _ Hf2 H' (s'.trans s2) m2 ⟨n, hnm, p⟩⟩
end
end K31
set_option Elab.async false
set_option linter.all false
set_option maxRecDepth 100000
set_option maxHeartbeats 2000000
/-! W31: _law_poly. -/
namespace K31
open PySem PySem.Spec L2
section
variable {X : Cx}
theorem o_exL {f : Value → Value → Sem Value} {g g' : Int → Prop} {h : Int → Int} {c : Int} (ho : ∀ i, OpT X f (vI i) (vI c) (vI (h i))) (hg : ∀ i, g i → g' (h i)) : OpT X f (vEx vI g) (vI c) (vEx vI g') := by
  intro pins s t H x y v u Q I rx ry w
  obtain ⟨⟨i, gi, p⟩, pb, k⟩ := w
  exact ho i pins s t H x y v u Q I rx ry ⟨p, pb, fun v H' s p => k v H' s ⟨_, hg i gi, p⟩⟩
theorem o_exR {f : Value → Value → Sem Value} {g g' : Int → Prop} {h : Int → Int} {c : Int} (ho : ∀ i, OpT X f (vI c) (vI i) (vI (h i))) (hg : ∀ i, g i → g' (h i)) : OpT X f (vI c) (vEx vI g) (vEx vI g') := by
  intro pins s t H x y v u Q I rx ry w
  obtain ⟨pa, ⟨i, gi, p⟩, k⟩ := w
  exact ho i pins s t H x y v u Q I rx ry ⟨pa, p, fun v H' s p => k v H' s ⟨_, hg i gi, p⟩⟩
end
/-- items that are known to exist -/
theorem items_ex {α : Type} {F : α → VP} {g : α → Prop} : ∀ {n : Nat} {xs : List V} {H : Hp}, Items (List.replicate n (vEx F g)) xs H → ∃ l : List α, l.length = n ∧ (∀ a ∈ l, g a) ∧ Items (l.map F) xs H
  | 0, xs, H, h => ⟨[], rfl, fun a ha => absurd ha List.not_mem_nil, h⟩
  | n + 1, [], H, h => h.elim
  | n + 1, x :: xs, H, h => by
    obtain ⟨⟨a, ga, pa⟩, hr⟩ := h
    obtain ⟨l, e, hl, its⟩ := items_ex hr
    exact ⟨a :: l, by rw [List.length_cons, e], fun b hb => by
      rcases List.mem_cons.mp hb with rfl | hb
      · exact ga
      · exact hl b hb, pa, its⟩
def smallI (i : Int) : Prop := -3 ≤ i ∧ i ≤ 3
def polyOk (most : Nat) (p : Pol) : Prop := ∃ l : List Int, l.length ≤ most + 1 ∧ (∀ i ∈ l, smallI i) ∧ p = ofList (l.map fun (i : Int) => (i : Rat))
section
variable {P : Program} {w : World} {K : PySem.W.Frag} {mg : Str → Option Value} {base : Heap}
theorem poly_c (V : Ev P K mg) (ad : Addr) (most : Nat) (hm : most ≤ 100) : CalM P w K mg base 46 "_law_poly" (Mst ad) [vAt ad, vI (most : Int)] (Mst ad) (vEx (vP K) (polyOk most)) := by
  obtain ⟨fd, F⟩ := V.W.fd_law_poly
  have nd := sc_law_poly.nd
  refine ⟨_, fd, _, fn_M F sc_law_poly rfl fun cdv A' outer s H Hf E Q hr q => ?_, V.W.gl_law_poly, F.kp, b2 F⟩
  refine s_retM (R := vEx (vP K) (polyOk most)) (e_mkX (Ps := [vEx (fun n => vLs ((List.range n).map fun _ => vEx vI smallI)) (fun n => n ≤ most + 1)]) V.W.gc_Poly V.W.mk_P.kp (fun vs Hf2 its => ?_) hr (show 42 + 1 ≤ 45 by omega) rfl (a_cons ?_ a_nil)) rfl q
  · obtain ⟨x, rfl, n, hn, a, xs, rfl, hx, itl⟩ := it1 its
    have e : (List.range n).map (fun _ => vEx vI smallI) = List.replicate n (vEx vI smallI) := by
      rw [List.map_const', List.length_range]
    rw [e] at itl
    obtain ⟨l, hl, hs, itl⟩ := items_ex itl
    exact ⟨[vSq (l.map vI)], vP K (ofList (l.map fun (i : Int) => (i : Rat))), ⟨.inr ⟨a, xs, rfl, hx, itl⟩, trivial⟩, P_mkI V l (by omega), fun v H h => ⟨_, ⟨l, by omega, hs, rfl⟩, h⟩⟩
  · refine e_lcE (own := [("_law_k", 2)]) (vs := [2]) (Zp := fun _ => vEx vI smallI) (p_range1E (by omega) (e_bin e_int (TyX.ty (e_callM (take_c V ad ((most : Int) + 1) (by omega)) (hr.mono (by omega)) rfl (a_cons (e_nm (P := vAt ad) 0) (a_cons (e_bin (e_nm (P := vI (most : Int)) 1) e_int o_add) a_nil)))) (o_exR (fun i => o_add) (fun i hi => by omega))) rfl V.W.fr_range) (by omega) nd (blk0 (by decide +kernel)) rfl (gow_name 2) (fun _ _ _ _ _ => pg_name (i := 2) nd rfl (Or.inl rfl)) (fun s2 H2 C cl fp i hi => ?_)
    exact e_bin (TyX.ty (e_callM (take_c V ad 7 (by omega)) (hr.mono (by omega)) rfl (a_cons (e_nm (P := vAt ad) 0) (a_cons e_int a_nil)))) e_int (o_exL (fun i => o_sub) (fun i hi => ⟨by omega, by omega⟩))
end
end K31
set_option Elab.async false
set_option linter.all false
set_option maxRecDepth 100000
set_option maxHeartbeats 2000000
/-! W32: _law_leading. -/
namespace K31
open PySem PySem.Spec L2
def leadRows : List (List Int) := [[1], [0, 1], [0, 0, 1], [-1, 1], [0, -1, 1], [1, 0, 1], [2], [1, 1]]
def rowOk (rows : List (List Int)) (p : Pol) : Prop := ∃ l ∈ rows, p = ofList (l.map fun (i : Int) => (i : Rat))
section
variable {X : Cx} {G : Ctx} {M : MCtx}
/-- l[i], i known to exist only -/
theorem e_ixE {a b : Expr} {pos : Pos} {rows : List (List Int)} {i1 : Int} (ha : TyE X a G M (vSq (rows.map fun l => vLs (l.map vI)))) (hb : TyE X b G M (vTk i1)) (hn : i1 ≤ (rows.length : Int)) (hs : PlainIx b := by exact fun _ _ => rfl) : TyE X (.Subscript a b pos) G M (vEx (fun (l : List Int) => vLs (l.map vI)) (fun l => l ∈ rows)) :=
  PE.imp (pe_ix ixT_or ha hb hs) fun t H Q h => rd_two h fun x y Hf H m pa pb Q k => by
    obtain ⟨i, ⟨g1, g2⟩, pb⟩ := pb
    have pb : y = .int i := pb
    subst pb
    have hi : i.toNat < rows.length := by omega
    have ei : (i : Int) = ((i.toNat : Nat) : Int) := by omega
    have hget : (rows.map fun l => vLs (l.map vI))[i.toNat]? = some (vLs ((rows[i.toNat]).map vI)) := by
      rw [List.getElem?_map, List.getElem?_eq_getElem hi]; rfl
    rcases pa with ⟨a, xs, rfl, hx, its⟩ | ⟨a, xs, rfl, hx, its⟩
    · obtain ⟨v, hv, pv⟩ := its.get hget
      exact .inr ⟨a, xs, (i.toNat : Nat), v, rfl, by rw [← ei], SqT.of (m.same _ _ hx), atI_nat hv, k v Hf H (Same.refl Hf) m ⟨rows[i.toNat], List.getElem_mem hi, pv⟩⟩
    · obtain ⟨v, hv, pv⟩ := its.get hget
      exact .inl ⟨a, xs, (i.toNat : Nat), v, rfl, by rw [← ei], SqL.of (m.same _ _ hx), atI_nat hv, k v Hf H (Same.refl Hf) m ⟨rows[i.toNat], List.getElem_mem hi, pv⟩⟩
/-- SOk, closed up: so that Lean does not run the program when it looks for more arguments -/
structure SOS (X : Cx) (sts : List Stmt) (H0 : Hp) (G : Ctx) (M : MCtx) (D : Ends) : Prop where
  go : SOk X sts H0 G M D
theorem sos_asg {H0 : Hp} {D : Ends} {rest : List Stmt} {P : VP} {e : Expr} {pos : Pos} (i : Nat) {x : Str} {p' : Pos} (he : TyE X e G M P) (h : SOS X rest H0 (G.set i (some P)) M D) (hN : X.N.Nodup) (hi : X.N[i]? = some x := by rfl) (hx : Loc X.env.scope x := by first | exact Or.inl rfl | exact Or.inr rfl)
    (hs : swapsWith e (some (.Name x p')) pos.line X.env = pure false := by rfl) (hf : X.fn x = true ∨ X.env.scope.names.lookup x = some .local := by first | exact .inl rfl | exact .inr rfl) : SOS X (.Assign [.Name x p'] e pos :: rest) H0 G M D := ⟨s_asg i he h.go hN hi hx hs hf⟩
/-- rows of ints, written -/
theorem e_row1 {e1 : Expr} {a : Int} {pos : Pos} (h1 : TyE X e1 G M (vI a)) (hs1 : starEach [e1] X.env = (false, eval e1 X.env) :: starEach [] X.env := by rfl) : TyE X (.List [e1] pos) G M (vLs ([a].map vI)) := e_lst (a_cons h1 a_nil hs1) (show (1 : Nat) ≤ 100 by decide)
theorem e_row2 {e1 e2 : Expr} {a b : Int} {pos : Pos} (h1 : TyE X e1 G M (vI a)) (h2 : TyE X e2 G M (vI b)) (hs1 : starEach [e1, e2] X.env = (false, eval e1 X.env) :: starEach [e2] X.env := by rfl) (hs2 : starEach [e2] X.env = (false, eval e2 X.env) :: starEach [] X.env := by rfl) : TyE X (.List [e1, e2] pos) G M (vLs ([a, b].map vI)) := e_lst (a_cons h1 (a_cons h2 a_nil hs2) hs1) (show (2 : Nat) ≤ 100 by decide)
theorem e_row3 {e1 e2 e3 : Expr} {a b c : Int} {pos : Pos} (h1 : TyE X e1 G M (vI a)) (h2 : TyE X e2 G M (vI b)) (h3 : TyE X e3 G M (vI c)) (hs1 : starEach [e1, e2, e3] X.env = (false, eval e1 X.env) :: starEach [e2, e3] X.env := by rfl) (hs2 : starEach [e2, e3] X.env = (false, eval e2 X.env) :: starEach [e3] X.env := by rfl) (hs3 : starEach [e3] X.env = (false, eval e3 X.env) :: starEach [] X.env := by rfl) :
    TyE X (.List [e1, e2, e3] pos) G M (vLs ([a, b, c].map vI)) := e_lst (a_cons h1 (a_cons h2 (a_cons h3 a_nil hs3) hs2) hs1) (show (3 : Nat) ≤ 100 by decide)
theorem e_neg {i : Int} {j : Nat} {p q : Pos} : TyE X (.UnaryOp .USub (.Constant (.int i) j p) q) G M (vI (-i)) := e_un e_int u_neg
theorem a_row {e : Expr} {es : List Expr} {l : List Int} {rows : List (List Int)} (h : TyE X e G M (vLs (l.map vI))) (hr : TyA X es G M (rows.map fun l => vLs (l.map vI))) (hs : starEach (e :: es) X.env = (false, eval e X.env) :: starEach es X.env := by rfl) : TyA X (e :: es) G M ((l :: rows).map fun l => vLs (l.map vI)) := a_cons h hr hs
theorem a_row0 : TyA X [] G M (([] : List (List Int)).map fun l => vLs (l.map vI)) := a_nil
end
section
variable {P : Program} {w : World} {K : PySem.W.Frag} {mg : Str → Option Value} {base : Heap}
theorem rows_mk (V : Ev P K mg) {X : Cx} {G : Ctx} {M : MCtx} {k : Nat} {rows : List (List Int)} (hrow : ∀ l ∈ rows, l.length ≤ 100) : ∀ vs Hf, Items [vEx (fun (l : List Int) => vLs (l.map vI)) (fun l => l ∈ rows)] vs Hf → ∃ Qs R', Items Qs vs Hf ∧ MakT P w K mg base 42 "Poly" (He.ga K "Poly") Qs [] R' ∧ ∀ v H, R'.p v H → (vEx (vP K) (rowOk rows)).p v H := fun vs Hf2 its => by
  obtain ⟨x, rfl, l, hl, hx⟩ := it1 its
  exact ⟨[vSq (l.map vI)], vP K (ofList (l.map fun (i : Int) => (i : Rat))), ⟨.inr hx, trivial⟩, P_mkI V l (by have := hrow l hl; omega), fun v H h => ⟨_, ⟨l, hl, rfl⟩, h⟩⟩
theorem leading_c (V : Ev P K mg) (ad : Addr) : CalM P w K mg base 46 "_law_leading" (Mst ad) [vAt ad] (Mst ad) (vEx (vP K) (rowOk leadRows)) := by
  obtain ⟨fd, F⟩ := V.W.fd_law_leading
  have nd := sc_law_leading.nd
  refine ⟨_, fd, _, fn_M F sc_law_leading rfl fun cdv A' outer s H Hf E Q hr q => ?_, V.W.gl_law_leading, F.kp, b1 F⟩
  have hh : SOS (cx0 P w K mg base N_law_leading "_law_leading" (defScope st_law_leading) (He.fAd K ("_law_leading", none)) cdv A' outer s H E) (defBody st_law_leading) Hf (startC N_law_leading.length [vAt ad]) (Mst ad) { nx := fun _ H' => Q .non H', rt := Q } := ?_
  · cases hh
    assumption
  refine sos_asg 1 (P := vLs (leadRows.map fun l => vLs (l.map vI))) (e_lst (a_row (e_row1 (e_int (i := 1))) (a_row (e_row2 (e_int (i := 0)) (e_int (i := 1))) (a_row (e_row3 (e_int (i := 0)) (e_int (i := 0)) (e_int (i := 1))) (a_row (e_row2 (e_neg (i := 1)) (e_int (i := 1))) (a_row (e_row3 (e_int (i := 0)) (e_neg (i := 1)) (e_int (i := 1))) (a_row (e_row3 (e_int (i := 1)) (e_int (i := 0)) (e_int (i := 1))) (a_row (e_row1 (e_int (i := 2))) (a_row (e_row2 (e_int (i := 1)) (e_int (i := 1))) a_row0)))))))) (show (8 : Nat) ≤ 100 by decide)) ?_ nd
  exact ⟨s_retM (R := vEx (vP K) (rowOk leadRows)) (e_mkX V.W.gc_Poly V.W.mk_P.kp (rows_mk V (X := cx0 P w K mg base N_law_leading "_law_leading" (defScope st_law_leading) (He.fAd K ("_law_leading", none)) cdv A' outer s H E) (G := []) (M := []) (k := 0) (by decide)) hr (show 42 + 1 ≤ 45 by omega) rfl (a_cons (e_ixE (rows := leadRows) (e_sqL (e_nm (P := vLs (leadRows.map fun l => vLs (l.map vI))) 1)) (TyX.ty (e_callM (take_c V ad 8 (by omega)) (hr.mono (by omega)) rfl (a_cons (e_nm (P := vAt ad) 0) (a_cons e_int a_nil)))) (by decide)) a_nil)) rfl q⟩
end
end K31
set_option Elab.async false
set_option linter.all false
set_option maxRecDepth 100000
set_option maxHeartbeats 2000000
/-! W33: costs of the law's functions. -/
namespace K31
open PySem PySem.Spec L2
theorem zf_le {l : List Int} {b : Nat} (h : ∀ i ∈ l, i.natAbs ≤ b) (i : Nat) : (zf l i).natAbs ≤ b := by
  unfold zf
  rw [List.getD_eq_getElem?_getD]
  cases e : l[i]? with
  | none => exact Nat.zero_le _
  | some x => exact h x (List.mem_of_getElem? e)
theorem zt_zf (l : List Int) : zt (zf l) = zf l.tail := by
  funext i
  unfold zt zf
  cases l with
  | nil => rfl
  | cons a l => rfl
theorem sn_zf {b : Nat} : ∀ (l : List Int), (∀ i ∈ l, i.natAbs ≤ b) → ∀ k, sn k (zf l) ≤ l.length * b
  | l, _, 0 => Nat.zero_le _
  | [], h, k + 1 => by
    rw [sn_succ, zt_zf]
    have h1 : sn k (zf []) ≤ 0 * b := sn_zf [] h k
    have h2 : (zf [] 0).natAbs = 0 := rfl
    show (zf [] 0).natAbs + sn k (zf []) ≤ 0 * b
    omega
  | a :: l, h, k + 1 => by
    rw [sn_succ, zt_zf]
    have h1 := sn_zf l (fun i hi => h i (List.mem_cons_of_mem _ hi)) k
    have h2 : (zf (a :: l) 0).natAbs ≤ b := h a List.mem_cons_self
    show (zf (a :: l) 0).natAbs + sn k (zf l) ≤ (l.length + 1) * b
    rw [Nat.succ_mul]
    omega
theorem pz_bp {l : List Int} {n b : Nat} (hl : l.length ≤ n) (h : ∀ i ∈ l, i.natAbs ≤ b) : BP (pz l) n (n * b) := by
  refine ⟨zf l, pz_is l, ?_, fun k => Nat.le_trans (sn_zf l h k) (Nat.mul_le_mul_right _ hl)⟩
  refine Nat.le_trans (Pol.len_le fun i hi => ?_) hl
  rw [pz_is, zf_ge hi]; rfl
theorem cost_p {l : List Int} {c : Nat} (hl : l.length ≤ c + 1) (h : ∀ i ∈ l, i.natAbs ≤ 3) (hc : (c + 1) * 3 ≤ 2 ^ (4 * c)) : Cost c (frac (pz l) 1) :=
  ⟨pz l, 1, one_ne, rfl, (pz_bp hl h).mono (Nat.le_refl _) hc, (BP.cst 1).mono (by omega) Nat.one_le_two_pow⟩
theorem cost_f {l d : List Int} {c : Nat} (hl : l.length ≤ c + 1) (h : ∀ i ∈ l, i.natAbs ≤ 3) (hd : d.length ≤ c + 1) (k : ∀ i ∈ d, i.natAbs ≤ 3) (hc : (c + 1) * 3 ≤ 2 ^ (4 * c)) (h0 : pz d ≠ 0) : Cost c (frac (pz l) (pz d)) :=
  ⟨pz l, pz d, h0, rfl, (pz_bp hl h).mono (Nat.le_refl _) hc, (pz_bp hd k).mono (Nat.le_refl _) hc⟩
theorem poly_cost {most : Nat} {p : Pol} (h : polyOk most p) (c : Nat) (hm : most ≤ c) (hc : (c + 1) * 3 ≤ 2 ^ (4 * c)) : Cost c (frac p 1) := by
  obtain ⟨l, hl, hs, rfl⟩ := h
  exact cost_p (by omega) (fun i hi => by have := hs i hi; unfold smallI at this; omega) hc
end K31
set_option Elab.async false
set_option linter.all false
set_option maxRecDepth 100000
set_option maxHeartbeats 2000000
/-! W34: _law_function. -/
namespace K31
open PySem PySem.Spec L2
theorem pz_pz {l : List Int} (h : ∀ i ∈ l, i.natAbs ≤ 3) : PZ S0 (pz l) := by
  refine ⟨1, Nat.one_pos, Nat.one_le_two_pow, fun i => ⟨zf l i, ?_, ?_⟩⟩
  · rw [pz_is]
    show ((zf l i : Int) : Rat) * ((1 : Nat) : Rat) = _
    rw [show ((1 : Nat) : Rat) = 1 from rfl, Rat.mul_one]
  · exact Nat.le_trans (zf_le h i) (Nat.le_trans (show 3 ≤ 2 ^ 2 by decide) (Nat.pow_le_pow_right (by decide) (show 2 ≤ S0 by decide)))
theorem pz_len_le (l : List Int) : (pz l).len ≤ l.length := Pol.len_le fun i hi => by rw [pz_is, zf_ge hi]; rfl
def densRows : List (List Int) := [[1], [1], [0, 1], [0, 0, 1], [-1, 1], [1, 0, 1], [0, -1, 1], [1, -2, 1]]
theorem dens_ok : ∀ l ∈ densRows, l.length ≤ 3 ∧ (∀ i ∈ l, i.natAbs ≤ 3) ∧ zf l (l.length - 1) ≠ 0 := by decide
theorem lead_ok : ∀ l ∈ leadRows, l.length ≤ 3 ∧ (∀ i ∈ l, i.natAbs ≤ 3) ∧ zf l (l.length - 1) ≠ 0 := by decide
theorem pz_ne {l : List Int} (h : zf l (l.length - 1) ≠ 0) : pz l ≠ 0 := fun z => by
  have e := pz_is l (l.length - 1)
  rw [z, zero_c] at e
  exact h (Rat.intCast_eq_zero_iff.mp e.symm)
def fnOk (f : RF) : Prop := Cost 2 f
section
variable {P : Program} {w : World} {K : PySem.W.Frag} {mg : Str → Option Value} {base : Heap}
theorem function_c (V : Ev P K mg) (ad : Addr) : CalM P w K mg base 54 "_law_function" (Mst ad) [vAt ad] (Mst ad) (vEx (vF K) fnOk) := by
  obtain ⟨fd, F⟩ := V.W.fd_law_function
  have nd := sc_law_function.nd
  refine ⟨_, fd, _, fn_M F sc_law_function rfl fun cdv A' outer s H Hf E Q hr q => ?_, V.W.gl_law_function, F.kp, b1 F⟩
  have hh : SOS (cx0 P w K mg base N_law_function "_law_function" (defScope st_law_function) (He.fAd K ("_law_function", none)) cdv A' outer s H E) (defBody st_law_function) Hf (startC N_law_function.length [vAt ad]) (Mst ad) { nx := fun _ H' => Q .non H', rt := Q } := ?_
  · cases hh
    assumption
  refine sos_asg 1 (P := vEx (vP K) (polyOk 2)) (TyX.ty (e_callM (poly_c V ad 2 (by omega)) (hr.mono (by omega)) rfl (a_cons (e_nm (P := vAt ad) 0) (a_cons (e_int (i := 2)) a_nil)))) ?_ nd
  refine sos_asg 2 (P := vLs (densRows.map fun l => vLs (l.map vI))) (e_lst (a_row (e_row1 (e_int (i := 1))) (a_row (e_row1 (e_int (i := 1))) (a_row (e_row2 (e_int (i := 0)) (e_int (i := 1))) (a_row (e_row3 (e_int (i := 0)) (e_int (i := 0)) (e_int (i := 1))) (a_row (e_row2 (e_neg (i := 1)) (e_int (i := 1))) (a_row (e_row3 (e_int (i := 1)) (e_int (i := 0)) (e_int (i := 1))) (a_row (e_row3 (e_int (i := 0)) (e_neg (i := 1)) (e_int (i := 1))) (a_row (e_row3 (e_int (i := 1)) (e_neg (i := 2)) (e_int (i := 1))) a_row0)))))))) (show (8 : Nat) ≤ 100 by decide)) ?_ nd
  refine ⟨?_⟩
  refine s_retM (R := vEx (vF K) fnOk) (e_mkX (Ps := [vEx (vP K) (polyOk 2), vEx (vP K) (rowOk densRows)]) V.W.gc_RatFun V.W.mk_F.kp (fun vs Hf2 its => ?_) hr (show 50 + 1 ≤ 53 by omega) rfl (a_cons (e_nm (P := vEx (vP K) (polyOk 2)) 1) (a_cons (e_mkX V.W.gc_Poly V.W.mk_P.kp (rows_mk V (X := cx0 P w K mg base N_law_function "_law_function" (defScope st_law_function) (He.fAd K ("_law_function", none)) cdv A' outer s H E) (G := []) (M := []) (k := 0) (by decide)) hr (show 42 + 1 ≤ 53 by omega) rfl (a_cons (e_ixE (rows := densRows) (e_sqL (e_nm (P := vLs (densRows.map fun l => vLs (l.map vI))) 2)) (TyX.ty (e_callM (take_c V ad 8 (by omega)) (hr.mono (by omega)) rfl (a_cons (e_nm (P := vAt ad) 0) (a_cons e_int a_nil)))) (by decide)) a_nil)) a_nil))) rfl q
  obtain ⟨x, y, rfl, ⟨p, ⟨l, hl, hs, rfl⟩, px⟩, ⟨d, ⟨m, hm, rfl⟩, py⟩⟩ := it2 its
  obtain ⟨k1, k2, k3⟩ := dens_ok m hm
  have hs2 : ∀ i ∈ l, i.natAbs ≤ 3 := fun i hi => by have := hs i hi; unfold smallI at this; omega
  have hc : Cost 2 (frac (pz l) (pz m)) := cost_f (by omega) hs2 (by omega) k2 (by decide) (pz_ne k3)
  have l1 := pz_len_le l
  have l2 := pz_len_le m
  exact ⟨[vP K (pz l), vP K (pz m)], vF K (frac (pz l) (pz m)), ⟨px, py, trivial⟩, F_mk V (pz l) (pz m) (fok_of (pz_ne k3) (pz_pz hs2) (pz_pz k2) (by omega) (by omega) hc (by omega)), fun v H h => ⟨_, hc, h⟩⟩
end
end K31
set_option Elab.async false
set_option linter.all false
set_option maxRecDepth 100000
set_option maxHeartbeats 2000000
/-! N0: costs, found by the form of a term. -/
namespace K31
class HC (f : RF) (c : outParam Nat) : Prop where
  h : c ≤ 100 → Cost c f
theorem HC.of {f : RF} {c : Nat} (h : Cost c f) : HC f c := ⟨fun _ => h⟩
instance hc0 : HC 0 0 := ⟨fun _ => Cost.zero⟩
instance hc1 : HC 1 0 := ⟨fun _ => Cost.one⟩
instance hcAdd {f g : RF} {a b : Nat} [i : HC f a] [j : HC g b] : HC (f + g) (a + b + 1) := ⟨fun h => (i.h (by omega)).add (j.h (by omega))⟩
instance hcSub {f g : RF} {a b : Nat} [i : HC f a] [j : HC g b] : HC (f - g) (a + b + 1) := ⟨fun h => (i.h (by omega)).sub (j.h (by omega))⟩
instance hcMul {f g : RF} {a b : Nat} [i : HC f a] [j : HC g b] : HC (f * g) (a + b) := ⟨fun h => (i.h (by omega)).mul (j.h (by omega))⟩
instance hcDiv {f g : RF} {a b : Nat} [i : HC f a] [j : HC g b] : HC (f / g) (a + b) := ⟨fun h => (i.h (by omega)).div (j.h (by omega))⟩
instance hcNeg {f : RF} {a : Nat} [i : HC f a] : HC (-f) a := ⟨fun h => (i.h h).neg⟩
instance hcInv {f : RF} {a : Nat} [i : HC f a] : HC f⁻¹ a := ⟨fun h => (i.h h).inv⟩
instance hcD {f : RF} {a : Nat} [i : HC f a] : HC f.d (2 * a + 2) := ⟨fun h => (i.h (by omega)).d (by omega)⟩
theorem HC.eq {f g : RF} {c : Nat} (h : HC f c) (e : f = g) : HC g c := e ▸ h
theorem HC.le {f : RF} {a b : Nat} (h : HC f a) (e : a ≤ b) (hb : b ≤ 100 := by decide) : HC f b := ⟨fun _ => (h.h (by omega)).mono e⟩
end K31
set_option Elab.async false
set_option linter.all false
set_option maxRecDepth 100000
set_option maxHeartbeats 2000000
/-! N1: what Relation finds, for at most two slots. -/
namespace K31
theorem co {f : RF} {a n : Nat} [i : HC f a] (h : a ≤ n ∧ a ≤ 100 := by decide) : Co n f := ⟨a, i.h h.2, h.1⟩
theorem co2 {f g : RF} {a b : Nat} [i : HC f a] [j : HC g b] (h : a + b ≤ 50 := by decide) : Co2 f g := ⟨a, b, i.h (by omega), j.h (by omega), h⟩
theorem can {f g : RF} {a b : Nat} [i : HC f a] [j : HC g b] (h : a + b ≤ 50 := by decide) : CanAdd f g := .inl (co2 h)
theorem trimF_id {l : List RF} (h : leadF l ≠ 0) : trimF l = l := by
  have hl : l ≠ [] := fun z => h (by rw [z]; rfl)
  have hp : 0 < l.length := List.length_pos_iff.mpr hl
  have e := trimF_take l l.length (Nat.le_refl _) (fun i hi => by rw [List.getD_eq_getElem?_getD, List.getElem?_eq_none hi]; rfl) (.inr h)
  rw [List.take_length] at e
  exact e.symm
theorem lek {a b : Nat} (h : Nat.ble a b = true) : a ≤ b := Nat.le_of_ble_eq_true h
theorem rf10 : (1 : RF) ≠ 0 := fun h => Lean.Grind.Field.zero_ne_one h.symm
/-- the end of a list of three, of two, of one -/
theorem lead1 (a : RF) : leadF [a] = a := rfl
theorem lead2 (a b : RF) : leadF [a, b] = b := rfl
theorem lead3 (a b c : RF) : leadF [a, b, c] = c := rfl
theorem mon1 : monF (trimF [1]) = [1] := by
  rw [trimF_id (by rw [lead1]; exact rf10)]
  unfold monF
  rw [lead1, RF.one_inv, show scF 1 [(1 : RF)] = [1 * 1] from rfl, show (1 : RF) * 1 = 1 by grind, trimF_id (by rw [lead1]; exact rf10)]
theorem mon2 (a : RF) : monF (trimF [a, 1]) = [a, 1] := by
  rw [trimF_id (by rw [lead2]; exact rf10)]
  unfold monF
  rw [lead2, RF.one_inv, show scF 1 [a, (1 : RF)] = [1 * a, 1 * 1] from rfl, show (1 : RF) * 1 = 1 by grind, show (1 : RF) * a = a by grind, trimF_id (by rw [lead2]; exact rf10)]
theorem mon3 (a b : RF) : monF (trimF [a, b, 1]) = [a, b, 1] := by
  rw [trimF_id (by rw [lead3]; exact rf10)]
  unfold monF
  rw [lead3, RF.one_inv, show scF 1 [a, b, (1 : RF)] = [1 * a, 1 * b, 1 * 1] from rfl, show (1 : RF) * 1 = 1 by grind, show (1 : RF) * a = a by grind, show (1 : RF) * b = b by grind, trimF_id (by rw [lead3]; exact rf10)]
/-- statements about the places of a short list -/
theorem all1 {p : Nat → Prop} (h : p 0) : ∀ k, k < 1 → p k := fun k hk => by
  obtain rfl : k = 0 := by omega
  exact h
theorem all2 {p : Nat → Prop} (h : p 0) (h1 : p 1) : ∀ k, k < 2 → p k := fun k hk => by
  obtain rfl | rfl : k = 0 ∨ k = 1 := by omega
  · exact h
  · exact h1
theorem all3 {p : Nat → Prop} (h : p 0) (h1 : p 1) (h2 : p 2) : ∀ k, k < 3 → p k := fun k hk => by
  obtain rfl | rfl | rfl : k = 0 ∨ k = 1 ∨ k = 2 := by omega
  · exact h
  · exact h1
  · exact h2
theorem all0 {p : Nat → Prop} : ∀ k, k < 0 → p k := fun k hk => absurd hk (Nat.not_lt_zero _)
theorem okMon1 : OkMon (trimF [1]) := by
  rw [trimF_id (by rw [lead1]; exact rf10)]
  exact ⟨by simp, rf10, co (f := (1 : RF)), all1 (co2 (f := (1 : RF)⁻¹) (g := 1)), lek rfl⟩
theorem okMon2 {a : RF} {c : Nat} [HC a c] (hc : c ≤ 50) : OkMon (trimF [a, 1]) := by
  rw [trimF_id (by rw [lead2]; exact rf10)]
  exact ⟨by simp, rf10, co (f := (1 : RF)), all2 (co2 (f := (1 : RF)⁻¹) (g := a) (by omega)) (co2 (f := (1 : RF)⁻¹) (g := 1)), lek rfl⟩
theorem okMon3 {a b : RF} {c d : Nat} [HC a c] [HC b d] (hc : c ≤ 50) (hd : d ≤ 50) : OkMon (trimF [a, b, 1]) := by
  rw [trimF_id (by rw [lead3]; exact rf10)]
  exact ⟨by simp, rf10, co (f := (1 : RF)), all3 (co2 (f := (1 : RF)⁻¹) (g := a) (by omega)) (co2 (f := (1 : RF)⁻¹) (g := b) (by omega)) (co2 (f := (1 : RF)⁻¹) (g := 1)), lek rfl⟩
/-! ### no slot -/
theorem ins0 : InsTo 0 0 [] (unF 0 0) [] (some [1]) := by
  have h := InsTo.out (wd := 0) (c := 0) (rs := []) (v := []) ⟨rfl, lek rfl, lek rfl, lek rfl, all0⟩ all0 okMon1
  rw [show (rdK [] ([] : List RF) 0 ([] : List Row).length).2 = [1] from rfl, mon1] at h
  exact h
/-! ### one slot -/
theorem ins1a : InsTo 1 0 [] [1] [(0, [1], [1])] none := by
  have h := InsTo.go (wd := 1) (c := 0) (rs := []) (v := [1]) 0 ⟨rfl, lek rfl, lek rfl, lek rfl, all0⟩ ⟨lek rfl, rf10, all0, co (f := (1 : RF)), all1 (co2 (f := (1 : RF)⁻¹) (g := 1)), all1 (co2 (f := (1 : RF)⁻¹) (g := 1))⟩
  rw [show ([] : List Row) ++ [newRow (rdK [] [(1 : RF)] 0 ([] : List Row).length).1 (rdK [] [(1 : RF)] 0 ([] : List Row).length).2 0] = [(0, [(1 : RF)⁻¹ * 1], [(1 : RF)⁻¹ * 1])] from rfl, RF.one_inv, show (1 : RF) * 1 = 1 by grind] at h
  exact h
theorem rdk1 (B : RF) : rdK [(0, [1], [1])] [B] 1 1 = ([0], [-B, 1]) := by
  show rdS ([B], [0, 1]) (0, [1], [1]) = _
  unfold rdS
  by_cases h : B = 0
  · rw [if_pos (show ([B], [(0 : RF), 1]).1.getD 0 0 = 0 from h), h]
    congr 1
    rw [show -(0 : RF) = 0 by grind]
  · rw [if_neg (show ¬ ([B], [(0 : RF), 1]).1.getD 0 0 = 0 from h)]
    show ([B - B * 1], [0 - B * 1, 1]) = _
    rw [show B - B * 1 = 0 by grind, show 0 - B * 1 = -B by grind]
theorem ins1b {B : RF} {c : Nat} [i : HC B c] (hc : c ≤ 25) : InsTo 1 1 [(0, [1], [1])] [B] [(0, [1], [1])] (some [-B, 1]) := by
  have h := InsTo.out (wd := 1) (c := 1) (rs := [(0, [1], [1])]) (v := [B]) ⟨rfl, lek rfl, lek rfl, lek rfl, all1 ⟨lek rfl, rfl, lek rfl, fun _ => all1 ⟨co2 (f := B) (g := 1) (by omega), co2 (f := B) (g := B * 1) (by omega)⟩, fun _ => all1 ⟨co2 (f := B) (g := 1) (by omega), co2 (f := 0) (g := B * 1) (by omega)⟩⟩⟩
    (by rw [show ([(0, [(1 : RF)], [(1 : RF)])] : List Row).length = 1 from rfl, rdk1]; exact all1 rfl) (by rw [show ([(0, [(1 : RF)], [(1 : RF)])] : List Row).length = 1 from rfl, rdk1]; exact okMon2 (a := -B) (by omega))
  rw [show ([(0, [(1 : RF)], [(1 : RF)])] : List Row).length = 1 from rfl, rdk1, mon2] at h
  exact h
/-! ### two slots -/
theorem ins2a : InsTo 2 0 [] [1, 0] [(0, [1, 0], [1])] none := by
  have h := InsTo.go (wd := 2) (c := 0) (rs := []) (v := [1, 0]) 0 ⟨rfl, lek rfl, lek rfl, lek rfl, all0⟩ ⟨lek rfl, rf10, all0, co (f := (1 : RF)), all2 (co2 (f := (1 : RF)⁻¹) (g := 1)) (co2 (f := (1 : RF)⁻¹) (g := 0)), all1 (co2 (f := (1 : RF)⁻¹) (g := 1))⟩
  rw [show ([] : List Row) ++ [newRow (rdK [] [(1 : RF), 0] 0 ([] : List Row).length).1 (rdK [] [(1 : RF), 0] 0 ([] : List Row).length).2 0] = [(0, [(1 : RF)⁻¹ * 1, (1 : RF)⁻¹ * 0], [(1 : RF)⁻¹ * 1])] from rfl, RF.one_inv, show (1 : RF) * 1 = 1 by grind, show (1 : RF) * 0 = 0 by grind] at h
  exact h
theorem rd2a (u : RF) : rdK [(0, [1, 0], [1])] [u, 1] 1 1 = ([0, 1], [-u, 1]) := by
  show rdS ([u, 1], [0, 1]) (0, [1, 0], [1]) = _
  unfold rdS
  by_cases h : u = 0
  · rw [if_pos (show ([u, (1 : RF)], [(0 : RF), 1]).1.getD 0 0 = 0 from h), h]
    rw [show -(0 : RF) = 0 by grind]
  · rw [if_neg (show ¬ ([u, (1 : RF)], [(0 : RF), 1]).1.getD 0 0 = 0 from h)]
    show ([u - u * 1, 1 - u * 0], [0 - u * 1, 1]) = _
    rw [show u - u * 1 = 0 by grind, show 0 - u * 1 = -u by grind, show 1 - u * 0 = 1 by grind]
theorem ins2b {u : RF} {c : Nat} [i : HC u c] (hc : c ≤ 25) : InsTo 2 1 [(0, [1, 0], [1])] [u, 1] [(0, [1, 0], [1]), (1, [0, 1], [-u, 1])] none := by
  have el : ([(0, [(1 : RF), 0], [(1 : RF)])] : List Row).length = 1 := rfl
  have h := InsTo.go (wd := 2) (c := 1) (rs := [(0, [1, 0], [1])]) (v := [u, 1]) 1 ⟨rfl, lek rfl, lek rfl, lek rfl, all1 ⟨lek rfl, rfl, lek rfl, fun _ => all2 ⟨co2 (f := u) (g := 1) (by omega), co2 (f := u) (g := u * 1) (by omega)⟩ ⟨co2 (f := u) (g := 0) (by omega), co2 (f := 1) (g := u * 0) (by omega)⟩, fun _ => all1 ⟨co2 (f := u) (g := 1) (by omega), co2 (f := 0) (g := u * 1) (by omega)⟩⟩⟩
    (by rw [el, rd2a]; exact ⟨lek rfl, rf10, all1 rfl, co (f := (1 : RF)), all2 (co2 (f := (1 : RF)⁻¹) (g := 0)) (co2 (f := (1 : RF)⁻¹) (g := 1)), all2 (co2 (f := (1 : RF)⁻¹) (g := -u) (by omega)) (co2 (f := (1 : RF)⁻¹) (g := 1))⟩)
  rw [el, rd2a, show ([(0, [(1 : RF), 0], [(1 : RF)])] : List Row) ++ [newRow ([(0 : RF), 1], [-u, 1]).1 ([(0 : RF), 1], [-u, 1]).2 1] = [(0, [1, 0], [1]), (1, [(1 : RF)⁻¹ * 0, (1 : RF)⁻¹ * 1], [(1 : RF)⁻¹ * -u, (1 : RF)⁻¹ * 1])] from rfl, RF.one_inv, show (1 : RF) * 1 = 1 by grind, show (1 : RF) * 0 = 0 by grind, show (1 : RF) * -u = -u by grind] at h
  exact h
theorem rd2b1 (u A B : RF) : rdS ([A, B], [0, 0, 1]) (0, [1, 0], [1]) = ([0, B], [-A, 0, 1]) := by
  unfold rdS
  by_cases h : A = 0
  · rw [if_pos (show ([A, B], [(0 : RF), 0, 1]).1.getD 0 0 = 0 from h), h]
    rw [show -(0 : RF) = 0 by grind]
  · rw [if_neg (show ¬ ([A, B], [(0 : RF), 0, 1]).1.getD 0 0 = 0 from h)]
    show ([A - A * 1, B - A * 0], [0 - A * 1, 0, 1]) = _
    rw [show A - A * 1 = 0 by grind, show 0 - A * 1 = -A by grind, show B - A * 0 = B by grind]
theorem rd2b2 (u A B : RF) : rdS ([0, B], [-A, 0, 1]) (1, [0, 1], [-u, 1]) = ([0, 0], [-A + B * u, -B, 1]) := by
  unfold rdS
  by_cases h : B = 0
  · rw [if_pos (show ([0, B], [-A, (0 : RF), 1]).1.getD 1 0 = 0 from h), h]
    rw [show -(0 : RF) = 0 by grind, show -A + 0 * u = -A by grind]
  · rw [if_neg (show ¬ ([0, B], [-A, (0 : RF), 1]).1.getD 1 0 = 0 from h)]
    show ([0 - B * 0, B - B * 1], [-A - B * -u, 0 - B * 1, 1]) = _
    rw [show 0 - B * 0 = 0 by grind, show B - B * 1 = 0 by grind, show -A - B * -u = -A + B * u by grind, show 0 - B * 1 = -B by grind]
theorem rd2b (u A B : RF) : rdK [(0, [1, 0], [1]), (1, [0, 1], [-u, 1])] [A, B] 2 2 = ([0, 0], [-A + B * u, -B, 1]) := by
  show rdS (rdS ([A, B], [0, 0, 1]) (0, [1, 0], [1])) (1, [0, 1], [-u, 1]) = _
  rw [rd2b1 u, rd2b2]
theorem ins2c {u A B : RF} {c a b : Nat} [i : HC u c] [j : HC A a] [k : HC B b] (hc : c ≤ 6) (ha : a ≤ 22) (hb : b ≤ 20) : InsTo 2 2 [(0, [1, 0], [1]), (1, [0, 1], [-u, 1])] [A, B] [(0, [1, 0], [1]), (1, [0, 1], [-u, 1])] (some [-A + B * u, -B, 1]) := by
  have el : ([(0, [(1 : RF), 0], [(1 : RF)]), (1, [0, 1], [-u, 1])] : List Row).length = 2 := rfl
  have h := InsTo.out (wd := 2) (c := 2) (rs := [(0, [1, 0], [1]), (1, [0, 1], [-u, 1])]) (v := [A, B]) ⟨rfl, lek rfl, lek rfl, lek rfl, all2 ⟨lek rfl, rfl, lek rfl, fun _ => all2 ⟨co2 (f := A) (g := 1) (by omega), co2 (f := A) (g := A * 1) (by omega)⟩ ⟨co2 (f := A) (g := 0) (by omega), co2 (f := B) (g := A * 0) (by omega)⟩, fun _ => all1 ⟨co2 (f := A) (g := 1) (by omega), co2 (f := 0) (g := A * 1) (by omega)⟩⟩
      (by
        have e : rdK [(0, [1, 0], [1]), (1, [0, 1], [-u, 1])] [A, B] 2 1 = ([0, B], [-A, 0, 1]) := rd2b1 u A B
        rw [e]
        exact ⟨lek rfl, rfl, lek rfl, fun _ => all2 ⟨co2 (f := B) (g := 0) (by omega), co2 (f := 0) (g := B * 0) (by omega)⟩ ⟨co2 (f := B) (g := 1) (by omega), co2 (f := B) (g := B * 1) (by omega)⟩,
          fun _ => all2 ⟨co2 (f := B) (g := -u) (by omega), co2 (f := -A) (g := B * -u) (by omega)⟩ ⟨co2 (f := B) (g := 1) (by omega), co2 (f := 0) (g := B * 1) (by omega)⟩⟩)⟩
    (by rw [el, rd2b]; exact all2 rfl rfl) (by rw [el, rd2b]; exact okMon3 (a := -A + B * u) (b := -B) (by omega) (by omega))
  rw [el, rd2b, mon3] at h
  exact h
end K31
set_option Elab.async false
set_option linter.all false
set_option maxRecDepth 100000
set_option maxHeartbeats 2000000
/-! N2: the law's operators; of_power of them. -/
namespace K31
def opOk (A : List RF) : Prop := ∃ (items : List RF) (c : RF), A = items ++ [c] ∧ items.length ≤ 2 ∧ (∀ f ∈ items, Cost 1 f) ∧ Cost 2 c ∧ c ≠ 0
theorem opOk.cases {A : List RF} (h : opOk A) : (∃ c, A = [c] ∧ HC c 2 ∧ c ≠ 0) ∨ (∃ p c, A = [p, c] ∧ HC p 1 ∧ HC c 2 ∧ c ≠ 0) ∨ ∃ p q c, A = [p, q, c] ∧ HC p 1 ∧ HC q 1 ∧ HC c 2 ∧ c ≠ 0 := by
  obtain ⟨items, c, rfl, hl, hi, hc, h0⟩ := h
  match items, hl, hi with
  | [], _, _ => exact .inl ⟨c, rfl, .of hc, h0⟩
  | [p], _, hi => exact .inr (.inl ⟨p, c, rfl, .of (hi p (by simp)), .of hc, h0⟩)
  | [p, q], _, hi => exact .inr (.inr ⟨p, q, c, rfl, .of (hi p (by simp)), .of (hi q (by simp)), .of hc, h0⟩)
  | _ :: _ :: _ :: _, hl, _ => exact absurd hl (by simp)
theorem okTl1 {c : RF} [HC c 2] (h0 : c ≠ 0) : OkTl [c] := ⟨by simp, h0, co (f := c), co (f := c⁻¹), all0, lek rfl⟩
theorem okTl2 {p c : RF} {a b : Nat} [HC p a] [HC c b] (h0 : c ≠ 0) (hb : b ≤ 10) (ha : a ≤ 10) : OkTl [p, c] := ⟨by simp, h0, co (f := c) (by omega), co (f := c⁻¹) (by omega), all1 (co2 (f := -c⁻¹) (g := p) (by omega)), lek rfl⟩
theorem okTl3 {p q c : RF} [HC p 1] [HC q 1] [HC c 2] (h0 : c ≠ 0) : OkTl [p, q, c] := ⟨by simp, h0, co (f := c), co (f := c⁻¹), all2 (co2 (f := -c⁻¹) (g := p)) (co2 (f := -c⁻¹) (g := q)), lek rfl⟩
theorem opOk.ne {A : List RF} (h : opOk A) : A ≠ [] := by
  obtain ⟨items, c, rfl, _⟩ := h
  simp
theorem cK {k : Nat} (hk : k ≤ 16) : Cost 1 (cR ((k : Nat) : Rat)) := by
  have h := Cost.cR (m := (k : Int)) (c := 1) (by simpa using hk)
  exact h
theorem okCp {k : Nat} {u : RF} {a : Nat} [HC u a] (h0 : 0 < k) (hk : k ≤ 16) (ha : a ≤ 20) : OkCp k u := by
  have : HC (cR ((k : Nat) : Rat)) 1 := .of (cK hk)
  exact ⟨h0, co (f := (1 : RF)), ⟨1, by omega, cK hk⟩, co2 (f := (1 : RF)) (g := cR ((k : Nat) : Rat)), co2 (f := 1 * cR ((k : Nat) : Rat)) (g := u) (by omega), can (f := (1 : RF).d) (g := 1 * cR ((k : Nat) : Rat) * u) (by omega)⟩
theorem hc_cp {k : Nat} {u : RF} {a : Nat} [HC u a] (hk : k ≤ 16) : HC (cpF k u) (2 * 0 + 2 + (0 + 1 + a) + 1) := by
  have : HC (cR ((k : Nat) : Rat)) 1 := .of (cK hk)
  unfold cpF
  infer_instance
/-- of_power at order 1 -/
theorem okPw1 {A : List RF} {k : Nat} {u : RF} {a : Nat} [HC u a] (tl : OkTl A) (e : tlF A = [u]) (h0 : 0 < k) (hk : k ≤ 16) (ha : a ≤ 20) : OkPw1 A k u [-cpF k u, 1] := by
  have i : HC (cpF k u) (2 * 0 + 2 + (0 + 1 + a) + 1) := hc_cp hk
  exact ⟨tl, e, by omega, okCp h0 hk ha, _, _, ins1a, ins1b (by omega)⟩
theorem okPw0 {c : RF} {k : Nat} [HC c 2] (h0 : c ≠ 0) (hk : k ≤ 16) : OkPw0 [c] k [1] := ⟨okTl1 h0, rfl, by omega, _, ins0⟩
end K31
set_option Elab.async false
set_option linter.all false
set_option maxRecDepth 100000
set_option maxHeartbeats 2000000
/-! W35: _law_operator. -/
namespace K31
open PySem PySem.Spec L2
theorem Items.split {Ps Qs : List VP} : ∀ {xs : List V} {H : Hp}, Items (Ps ++ Qs) xs H → ∃ ys zs, xs = ys ++ zs ∧ Items Ps ys H ∧ Items Qs zs H := by
  induction Ps with
  | nil => exact fun {xs H} h => ⟨[], xs, rfl, trivial, h⟩
  | cons P Ps ih =>
    intro xs H h
    match xs, h with
    | [], h => exact h.elim
    | x :: xs, h =>
      obtain ⟨ys, zs, rfl, h1, h2⟩ := ih h.2
      exact ⟨x :: ys, zs, rfl, ⟨h.1, h1⟩, h2⟩
/-- x = [elt for tg in iter], of a length that is only bounded -/
theorem s_lcE {X : Cx} {G : Ctx} {M : MCtx} {H0 : Hp} {D : Ends} {rest : List Stmt} {pos : Pos} (l : Nat) {y : Str} {py spos : Pos} {tg iter elt : Expr} {scope : Scope} {own : List (Str × Nat)} {vs : List Nat} {Nm : Nat} {Yp Zp : Nat → VP} {g : TG} {sG : Nat → Ctx → Ctx} (hi : PItE X tg iter G M Nm Yp) (hn : Nm ≤ 100000) (hN : X.N.Nodup) (ok : BlkOk X.N X.env.scope scope own) (hv : own.map (·.2) = vs) (hgo : GoW vs Nm Yp sG g)
    (hg : ∀ (s : Shared) (H : Hp) (C : Addr) (cl : List (Str × Addr)) (fp : List Addr), PG (X.blk s H scope (compEnvC scope cl C X.env) fp) tg g)
    (he : ∀ (s : Shared) (H : Hp) (C : Addr) (cl : List (Str × Addr)) (fp : List Addr) (i : Nat), i < Nm → TyE (X.blk s H scope (compEnvC scope cl C X.env) fp) elt (sG i (wipeC G vs)) M (Zp i))
    (h : ∀ n, n ≤ Nm → SOk X rest H0 (G.set l (some (vLs ((List.range n).map Zp)))) M D) (hy : X.N[l]? = some y := by rfl) (hyl : X.env.scope.names.lookup y = some .local := by rfl)
    (hsw : swapsWith (.ListComp elt [⟨tg, iter, [], 0⟩] scope pos) (some (.Name y py)) spos.line X.env = pure true := by exact sw_true rfl rfl rfl (by decide +kernel))
    (hc : X.calm = true := by rfl) (hs : ∀ x, foldedSetIterable iter X.env x = pure x := by intro _; rfl) : SOk X (.Assign [.Name y py] (.ListComp elt [⟨tg, iter, [], 0⟩] scope pos) spos :: rest) H0 G M D := by
  subst hv
  exact s_cons (ps_setLc hc hN hy hyl hsw hi ok hg (fun _ _ _ _ _ => pts_nil) (fun s H C cl fp => lc_eltM (he s H C cl fp)) hs) fun t Hf H s o m =>
    lc_readE (iter := iter) (elt := elt) (tg := tg) hn hgo ⟨Hf, o, m, fun n ad Hf' H' hnm s' m' => by
      obtain ⟨Hf2, s2, m2, p⟩ := m'.calm
      exact h n hnm _ Hf2 H' ((s.trans s').trans s2) (((o.mono s').mono s2).set p) m2⟩
def leadOk (c : RF) : Prop := Cost 2 c ∧ c ≠ 0
theorem frac_ne {p : Pol} (h : p ≠ 0) : frac p 1 ≠ 0 := fun z => h ((frac_num_zero one_ne).mp (RF.num_zero.mpr z))
theorem lead_cost {p : Pol} (h : rowOk leadRows p) : leadOk (frac p 1) := by
  obtain ⟨l, hl, rfl⟩ := h
  obtain ⟨h1, h2, h3⟩ := lead_ok l hl
  exact ⟨cost_p (by omega) h2 (by decide), frac_ne (pz_ne h3)⟩
section
variable {P : Program} {w : World} {K : PySem.W.Frag} {mg : Str → Option Value} {base : Heap}
theorem operator_c (V : Ev P K mg) (ad : Addr) : CalM P w K mg base 56 "_law_operator" (Mst ad) [vAt ad, vI ((2 : Nat) : Int)] (Mst ad) (vEx (vO K) opOk) := by
  obtain ⟨fd, F⟩ := V.W.fd_law_operator
  obtain ⟨fo, Fo⟩ := V.W.fd_of_poly
  have nd := sc_law_operator.nd
  refine ⟨_, fd, _, fn_M F sc_law_operator rfl fun cdv A' outer s H Hf E Q hr q => ?_, V.W.gl_law_operator, F.kp, b2 F⟩
  have hopoly : ∀ (g : Pol → Prop) (gf : RF → Prop) (c : Nat), c ≤ 50 → (∀ p, g p → Cost c (frac p 1) ∧ gf (frac p 1)) → ∀ vs Hf, Items [vEx (vP K) g] vs Hf → ∃ Qs R', Items Qs vs Hf ∧ CalT P w K mg base 52 "of_poly" Qs [] R' ∧ ∀ v H, R'.p v H → (vEx (vF K) gf).p v H := fun g gf c hc hg vs Hf its => by
    obtain ⟨x, rfl, p, gp, hx⟩ := it1 its
    exact ⟨[vP K p], vF K (frac p 1), ⟨hx, trivial⟩, of_poly_c V (hg p gp).1 hc, fun v H h => ⟨_, (hg p gp).2, h⟩⟩
  refine s_asg 2 (P := vTk 3) (TyX.ty (e_callM (take_c V ad 3 (by omega)) (hr.mono (by omega)) rfl (a_cons (e_nm (P := vAt ad) 0) (a_cons (e_bin (e_nm (P := vI ((2 : Nat) : Int)) 1) e_int o_add) a_nil)))) ?_ nd
  refine s_lcE 3 (own := [("_law_k", 4)]) (vs := [4]) (Zp := fun _ => vEx (vF K) (Cost 1)) (p_range1E (Nm := 2) (by omega) (e_is (e_nm (P := vTk 3) 2) (fun v H ⟨i, hi, e⟩ => ⟨i, by omega, e⟩)) rfl V.W.fr_range) (by omega) nd (blk0 (by decide +kernel)) rfl (gow_name 4) (fun _ _ _ _ _ => pg_name (i := 4) nd rfl (Or.inl rfl)) (fun s2 H2 C cl fp i hi => ?_) (fun n hn => ?_)
  · exact e_callX V.W.gl_of_poly Fo.kp (hopoly (polyOk 1) (Cost 1) 1 (by omega) (fun p hp => ⟨poly_cost hp 1 (by omega) (by decide), poly_cost hp 1 (by omega) (by decide)⟩)) hr (by omega) rfl (a_cons (TyX.ty (e_callM (poly_c V ad 1 (by omega)) (hr.mono (by omega)) rfl (a_cons (e_nm (P := vAt ad) 0) (a_cons e_int a_nil)))) a_nil)
  have ec : (List.range n).map (fun _ => vEx (vF K) (Cost 1)) = List.replicate n (vEx (vF K) (Cost 1)) := by rw [List.map_const', List.length_range]
  rw [ec]
  refine s_retM (R := vEx (vO K) opOk) (e_mkX (Ps := [vLs (List.replicate n (vEx (vF K) (Cost 1)) ++ [vEx (vF K) leadOk])]) V.W.gc_Operator V.W.mk_O.kp (fun vs Hf2 its => ?_) hr (show 5 + 1 ≤ 55 by omega) rfl (a_cons (e_bin (e_nm (P := vLs (List.replicate n (vEx (vF K) (Cost 1)))) 3) (e_lst (a_cons (e_callX V.W.gl_of_poly Fo.kp (hopoly (rowOk leadRows) leadOk 2 (by omega) (fun p hp => ⟨(lead_cost hp).1, lead_cost hp⟩)) hr (by omega) rfl (a_cons (TyX.ty (e_callM (leading_c V ad) (hr.mono (by omega)) rfl (a_cons (e_nm (P := vAt ad) 0) a_nil))) a_nil)) a_nil) (show (1 : Nat) ≤ 100 by decide)) (o_catL (by rw [List.length_replicate]; show n + 1 ≤ 100000; omega))) a_nil)) rfl q
  obtain ⟨x, rfl, a, xs, rfl, hx, itl⟩ := it1 its
  obtain ⟨ys, zs, rfl, h1, h2⟩ := itl.split
  obtain ⟨l, hl, hc, i1⟩ := items_ex h1
  obtain ⟨z, rfl, c, ⟨cc, c0⟩, hz⟩ := it1 h2
  have e0 : trimF (l ++ [c]) = l ++ [c] := trimF_id (by
    unfold leadF
    rw [List.length_append, List.length_singleton, Nat.add_sub_cancel, List.getD_eq_getElem?_getD, List.getElem?_append_right (Nat.le_refl _), Nat.sub_self]
    exact c0)
  refine ⟨[vSq (vFs K (l ++ [c]))], vO K (l ++ [c]), ⟨.inr ⟨a, ys ++ [z], rfl, hx, ?_⟩, trivial⟩, ?_, fun v H h => ⟨_, ⟨l, c, rfl, by omega, hc, cc, c0⟩, h⟩⟩
  · rw [vFs_app]
    exact i1.append ⟨hz, trivial⟩
  · have hm := O_mk (w := w) (base := base) V (l ++ [c])
    rw [e0] at hm
    exact hm
end
end K31
set_option Elab.async false
set_option linter.all false
set_option maxRecDepth 100000
set_option maxHeartbeats 2000000
/-! W36: _law_state. -/
namespace K31
open PySem PySem.Spec L2
def cellOk (z : Int) : Prop := z.natAbs < 2 ^ 1048576
def sdOk (k : Nat) (p : Int × Int) : Prop := 0 ≤ p.1 ∧ p.1.natAbs < 2 ^ (1048576 + 20 * k) ∧ totOk p.2
/-- the script: ints in a list that nobody changes -/
def vSc (K : PySem.W.Frag) (ns : List Int) : VP := ⟨fun v H => ∃ a, v = .ref a ∧ SqL K H a (ns.map V.int), fun _ _ _ s ⟨a, e, h⟩ => ⟨a, e, h.ext s⟩⟩
theorem items_int (H : Hp) : ∀ ns : List Int, Items (ns.map vI) (ns.map V.int) H
  | [] => trivial
  | _ :: ns => ⟨rfl, items_int H ns⟩
theorem e_slSc {X : Cx} {G : Ctx} {M : MCtx} {a b : Expr} {pos p2 : Pos} {ns : List Int} {k : Nat} (ha : TyE X a G M (vSc X.K ns)) (hb : TyE X b G M (vI (k : Int))) : TyE X (.Subscript a (.Slice none (some b) none p2) pos) G M (vLs ((ns.map vI).take k)) :=
  PE.imp (pe_slice sl_list ha po_none (po_some hb)) fun t H Q ⟨Hf, o, m, q⟩ => ⟨Hf, o, m, fun v Hf' H' s m' pv => ⟨Hf', o.mono s, m', fun w Hf2 H2 s2 m2 (pw : w = .int k) => ⟨k, pw, by
    obtain ⟨ad, rfl, hx⟩ := pv
    refine ⟨ad, ns.map V.int, rfl, (hx.ext s2).ext m2.same, fun T hT => ?_⟩
    rw [cut_to]
    exact q _ _ _ ((s.trans s2).trans (same_upd (m2.free hT))) (m2.new hT) ⟨T, _, rfl, upd_same, ((items_int _ ns).take k)⟩⟩⟩⟩
theorem sd_step {k : Nat} {a z : Int} (h0 : 0 ≤ a) (h : a.natAbs < 2 ^ (1048576 + 20 * k)) (hz : cellOk z) : 0 ≤ a * 1000003 + (if z < 0 then -z else z) ∧ (a * 1000003 + (if z < 0 then -z else z)).natAbs < 2 ^ (1048576 + 20 * (k + 1)) := by
  unfold cellOk at hz
  have e : (if z < 0 then -z else z) = (z.natAbs : Int) := by split <;> omega
  rw [e]
  obtain ⟨n, rfl⟩ := Int.eq_ofNat_of_zero_le h0
  rw [Int.natAbs_natCast] at h
  have e2 : ((n : Int) * 1000003 + (z.natAbs : Int)) = ((n * 1000003 + z.natAbs : Nat) : Int) := by simp
  rw [e2, Int.natAbs_natCast]
  refine ⟨Int.natCast_nonneg _, ?_⟩
  have h1 : 2 ^ 1048576 ≤ 2 ^ (1048576 + 20 * k) := Nat.pow_le_pow_right (by decide) (by omega)
  have e3 : 2 ^ (1048576 + 20 * (k + 1)) = 2 ^ (1048576 + 20 * k) * 1048576 := by
    rw [show 1048576 + 20 * (k + 1) = (1048576 + 20 * k) + 20 by omega, Nat.pow_add]
  rw [e3]
  generalize 2 ^ (1048576 + 20 * k) = B at *
  generalize 2 ^ 1048576 = C at *
  generalize z.natAbs = zz at *
  omega
section
variable {P : Program} {w : World} {K : PySem.W.Frag} {mg : Str → Option Value} {base : Heap}
theorem state_c (V : Ev P K mg) (ns : List Int) (hl : ns.length ≤ 63) (hz : ∀ z ∈ ns, cellOk z) : CalN P w K mg base 40 "_law_state" [vSc K ns] [vSd, vTt] := by
  obtain ⟨fd, F⟩ := V.W.fd_law_state
  have nd := sc_law_state.nd
  refine ⟨_, fd, _, fn_N F sc_law_state rfl fun cdv A' outer s H E Q hr q => ?_, V.W.gl_law_state, F.kp, b1 F⟩
  refine s_asg 1 (P := vI 0) (e_int (i := 0)) ?_ nd
  refine s_asg 2 (P := vI 1) (e_int (i := 1)) ?_ nd
  refine s_for (I := Int × Int) (pit_n (pi_seq (e_sqL (e_slSc (k := 63) (e_nm (P := vSc K ns) 0) (e_int (i := 63))))) (show _ = ns.length by rw [List.length_take, List.length_map]; omega)) (pg_name (i := 3) nd rfl (Or.inl rfl)) (fun i G => G.set 3 (some (atP ((ns.map vI).take 63) i))) (go_name 3) (fun k p => sdOk k p) (fun _ p => [some (vSc K ns), some (vI p.1), some (vI p.2), none]) (fun _ _ => []) (0, 1) ⟨Int.le_refl 0, Nat.two_pow_pos _, by unfold totOk; omega⟩ ⟨rfl, rfl, rfl, trivial⟩ rfl (fun Hb k p sm hk hg => ?_) (fun Hb p sm hg => ?_) .never
  · obtain ⟨a, b⟩ := p
    obtain ⟨h0, h1, h2⟩ := hg
    have ez : atP ((ns.map vI).take 63) k = vI (ns[k]'hk) := by
      unfold atP
      rw [List.take_of_length_le (by rw [List.length_map]; omega), List.getD_eq_getElem?_getD, List.getElem?_map, List.getElem?_eq_getElem hk]
      rfl
    have hc := hz _ (List.getElem_mem hk)
    rw [ez]
    generalize ns[k]'hk = z at *
    have st := sd_step (k := k) h0 h1 hc
    refine s_asg 1 (P := vI (a * 1000003 + (if z < 0 then -z else z))) (e_bin (e_bin (e_nm (P := vI a) 1) (e_int (i := 1000003)) (o_mul (mulx_ok (a := 1048576 + 20 * k) (b := 20) h1 (by decide) (by omega)))) (e_blt c_abs rfl V.W.fr_abs (by first | exact PyProof.Rows.boot_abs | rfl) (a_cons (e_nm (P := vI z) 3) a_nil)) o_add) ?_ nd
    refine s_asg 2 (P := vI ((b * 48271 + z) % 2147483647)) (e_bin (e_bty c_int rfl V.W.fr_int PyProof.Rows.boot_int (a_cons (e_bin (e_bin (e_nm (P := vI b) 2) (e_int (i := 48271)) (o_mul ?_)) (e_nm (P := vI z) 3) o_add) a_nil)) (e_int (i := 2147483647)) (o_mod (by decide))) ?_ nd
    · obtain ⟨g1, g2⟩ := h2
      exact mulx_ok (a := 32) (b := 32) (by omega) (by decide) (by decide)
    · exact nx_ok (a * 1000003 + (if z < 0 then -z else z), (b * 48271 + z) % 2147483647) ⟨st.1, st.2, tot_ok _⟩ rfl ⟨rfl, rfl, rfl, trivial⟩ rfl
  · obtain ⟨a, b⟩ := p
    obtain ⟨h0, h1, h2⟩ := hg
    refine s_retL (Rs := [vSd, vTt]) (n_lst (a_cons (e_ex a (e_nm (P := vI a) 1) ⟨h0, 1048576 + 20 * ns.length, by omega, h1⟩) (a_cons (e_ex b (e_nm (P := vI b) 2) h2) a_nil)) (show (2 : Nat) ≤ 100 by decide)) fun ad Hf H1 s1 m1 => q ad Hf H1 (sm.trans s1) m1
end
end K31
set_option Elab.async false
set_option linter.all false
set_option maxRecDepth 100000
set_option maxHeartbeats 2000000
/-! T16: Refused(..), whose __init__ calls super(). -/
namespace K31
open PySem PySem.Spec L2
/-- what the head says of the class and of its __init__ -/
structure SupF (K : PySem.W.Frag) (C fI : Addr) : Prop where
  oex : OexC K C
  iC : PySem.W.findIn K (.ref C) "__init__" = some (some (.ref fI))
  tI : PySem.W.typeIn K (.ref fI) = some (.type "function")
  no : PySem.W.findIn K (.ref C) "reason" = some none
  mro : PySem.W.mroIn K C (.ref C) = some true
  sup : PySem.W.ks_superIn K C C "__init__" = some (some (.builtin "ValueError.__init__"))
  tp : PySem.W.nsIn K cStatics "thirdparty.any" = some none
  ve : PySem.W.subIn K (.ref C) (.type "ValueError") = some true
  xf : XfC K C
  ins : Ins K C
  fn : ∃ (oc : Value) (od : Option Addr) (osl : Array (Option Value)) (kV doc pm : Value) (an : Option Addr) (ct : Value) (cda cc : Addr), K.lookup fI = some ⟨oc, od, .func (PySem.W.fnX "__init__" "Refused.__init__" (defArgs st_E_init) (defBody st_E_init) (defScope st_E_init) [("__class__", cc)] .none kV doc pm an (.ref cda) ct), osl⟩ ∧
    PySem.W.codeIn K (.ref cda) "Refused.__init__" = true ∧ (∃ (ccl : Value) (cdd : Option Addr) (vs : Array Value) (ccs : Array (Option Value)) (file : Str) (tf : Tok), K.lookup cda = some ⟨ccl, cdd, .fields vs, ccs⟩ ∧ vs[2]? = some (.str file tf) ∧ PR.main.file = file) ∧
    ∃ (cl : Value) (cld : Option Addr) (csl : Array (Option Value)), K.lookup cc = some ⟨cl, cld, .cell (some (.ref C)), csl⟩
theorem cls_of {K : PySem.W.Frag} {C : Addr} (q : clsB K C = true) : ∃ nm q N bs bm sn sub ab col dd k0 k1 k2 k3 k5, K.lookup C = some (excClassObj nm q C N bs bm true sn sub ab col dd k0 k1 k2 k3 k5 "ValueError.__new__") ∧ PySem.HandSPX.refsVE bm = true := by
  unfold clsB at q
  split at q
  · rename_i dd cd sl ho
    split at q
    · rename_i C' bm k0 k1 k2 k3 n k5 hm hs
      obtain ⟨q1, q⟩ := bd q
      obtain ⟨q2, q⟩ := bd q
      obtain ⟨q3, q⟩ := bd q
      obtain ⟨q4, q5⟩ := bd q
      have e1 : C' = C := of_decide_eq_true q1
      have e2 : n = "ValueError.__new__" := of_decide_eq_true q2
      subst e1 e2
      obtain ⟨nm, bs, mro, ns, qn, hd, sn, sub, ab, col, del⟩ := cd
      dsimp only at hm q3 q4
      subst hm q4
      have hdel : del = false := by cases del <;> first | rfl | cases q3
      subst hdel
      have hsl : sl = #[k0, k1, k2, k3, some (.builtin "ValueError.__new__"), k5] := by
        obtain ⟨l⟩ := sl
        simp only at hs
        rw [hs]
      subst hsl
      exact ⟨nm, qn, ns, bs, bm, sn, sub, ab, col, dd, k0, k1, k2, k3, k5, ho, q5⟩
    · cases q
  · cases q
theorem cod_of {K : PySem.W.Frag} {C : Addr} (r : rfObs K = rfVal) (c : codB K (He.fAd K ("Refused", some "__init__")) C = true) :
    ∃ (oc : Value) (od : Option Addr) (osl : Array (Option Value)) (kV doc pm : Value) (an : Option Addr) (ct : Value) (cda cc : Addr), K.lookup (He.fAd K ("Refused", some "__init__")) = some ⟨oc, od, .func (PySem.W.fnX "__init__" "Refused.__init__" (defArgs st_E_init) (defBody st_E_init) (defScope st_E_init) [("__class__", cc)] .none kV doc pm an (.ref cda) ct), osl⟩ ∧
    PySem.W.codeIn K (.ref cda) "Refused.__init__" = true ∧ (∃ (ccl : Value) (cdd : Option Addr) (vs : Array Value) (ccs : Array (Option Value)) (file : Str) (tf : Tok), K.lookup cda = some ⟨ccl, cdd, .fields vs, ccs⟩ ∧ vs[2]? = some (.str file tf) ∧ PR.main.file = file) ∧
    ∃ (cl : Value) (cld : Option Addr) (csl : Array (Option Value)), K.lookup cc = some ⟨cl, cld, .cell (some (.ref C)), csl⟩ := by
  unfold codB at c
  unfold rfObs rfVal at r
  cases q : K.lookup (He.fAd K ("Refused", some "__init__")) with
  | none => rw [q] at c; cases c
  | some o =>
    obtain ⟨oc, od, dt, osl⟩ := o
    rw [q] at c r
    cases dt with
    | func fd =>
      obtain ⟨n1, n2, n3, n4, n5, n6, n7, n8, n9, n10, n11, n12, n13, n14, n15⟩ := fd
      dsimp only at c r
      simp only [Option.some.injEq, Prod.mk.injEq] at r
      obtain ⟨h1, h2, h3, h4, h5, h6, h7, h8, h9⟩ := r
      subst h1 h2 h3 h4 h5 h6 h8 h9
      obtain ⟨c1, cR⟩ := bd c
      obtain ⟨c2, c3⟩ := bd cR
      obtain ⟨⟨x, cc⟩, rfl⟩ : ∃ p, n7 = [p] := by
        match n7, h7 with
        | [p], _ => exact ⟨p, rfl⟩
      have ex : x = "__class__" := by simpa using h7
      subst ex
      dsimp only at c2 c3
      split at c2
      · rename_i cda
        split at c2
        · rename_i ccl cdd vs ccs hl
          split at c2
          · rename_i file tf hv
            refine ⟨oc, od, osl, n9, n10, n11, n12, n14, cda, cc, rfl, c1, ⟨ccl, cdd, vs, ccs, file, tf, hl, hv, of_decide_eq_true c2⟩, ?_⟩
            split at c3
            · rename_i cl cld D csl hc
              have ed : D = C := of_decide_eq_true c3
              subst ed
              exact ⟨_, _, _, hc⟩
            · cases c3
          · cases c2
        · cases c2
      · cases c2
    | _ => cases c
theorem Wd.supF {K : PySem.W.Frag} {mg : Str → Option Value} (W : Wd K mg) : SupF K (He.ga K "Refused") (He.fAd K ("Refused", some "__init__")) := by
  have h : supC K (He.ga K "Refused") (He.fAd K ("Refused", some "__init__")) = true := W.m.sup
  unfold supC at h
  obtain ⟨h1, h⟩ := bd h
  obtain ⟨h2, h⟩ := bd h
  obtain ⟨h3, h⟩ := bd h
  obtain ⟨h4, h⟩ := bd h
  obtain ⟨h5, h⟩ := bd h
  obtain ⟨h6, h⟩ := bd h
  obtain ⟨h7, h⟩ := bd h
  obtain ⟨h8, h⟩ := bd h
  obtain ⟨h9, h⟩ := bd h
  obtain ⟨h10, h⟩ := bd h
  obtain ⟨h11, h⟩ := bd h
  obtain ⟨h12, h⟩ := bd h
  obtain ⟨h13, h⟩ := bd h
  obtain ⟨h14, h15⟩ := bd h
  exact ⟨⟨cls_of h1, He.eqO_ok h2, of_decide_eq_true h3, of_decide_eq_true h4, h5⟩, He.eqO_ok h6, of_decide_eq_true h7, He.eqO_ok h8, of_decide_eq_true h9, He.eqO_ok h10, He.eqO_ok h11, of_decide_eq_true h12, xfB_ok h13, ins_of h14, cod_of W.rf h15⟩
end K31
set_option Elab.async false
set_option linter.all false
set_option maxRecDepth 100000
set_option maxHeartbeats 2000000
/-! T17: Refused.__init__ walked. -/
namespace K31
open PySem PySem.Spec L2
def spRf (C : Addr) : Sp := fun vs H Q _ => ∃ a, vs = [.ref a, .str "large"] ∧ H a = some (exo a C none) ∧ ∀ dx, H dx = none → dx ≠ a → Q .non (upd (upd H dx (exd dx [("reason", .str "large")])) a (exo a C (some dx)))
abbrev N_E_init : List Str := ["self", "reason", "__class__"]
abbrev p_E_init : List Str := ["self", "reason"]
def nfE (cc cda : Addr) : NdefX.NF := ⟨"__init__", "Refused.__init__", defArgs st_E_init, defBody st_E_init, defScope st_E_init, [("__class__", cc)], cda⟩
theorem nsc_E : NdefX.NScope N_E_init p_E_init ["__class__"] (defScope st_E_init) := NdefX.nscope_by (by decide +kernel)
theorem str_catE : ("refused: " : Str) ++ ("large" : Str) = ("refused: large" : Str) := by decide +kernel
theorem sE1 : (defScope st_E_init).names.lookup ("super" : Str) = some .globalImplicit := by decide +kernel
theorem sE2 : (defScope st_E_init).names.lookup ("__class__" : Str) = some .free := by decide +kernel
theorem sE3 : (defScope st_E_init).names.lookup ("self" : Str) = some .local := by decide +kernel
theorem sE4 : ∀ x ∈ (defScope st_E_init).names, x.2 ≠ .cell := by decide +kernel
section
variable {X : Cx} {pins : List (Addr × Obj)} {σ : L2.St} {H : Hp} {s : Shared}
/-- a new object that is not tracked, held -/
theorem inv_pin {o : Obj} {t' : Nat} {h' : Heap} {u : Addr} (I : Inv X [] σ H s) (hu : s.heap.objs.size ≤ u) (k : ∀ b o, s.heap.get? b = some o → h'.get? b = some o) (ho : h'.get? u = some o) (hc : ∀ v, o.data ≠ .cell v) (hf : ∀ b ∈ X.fs, ∃ o, s.heap.get? b = some o) (hpn : X.pn = []) :
    Inv X [(u, o)] σ H { s with heap := h', toks := t' } := by
  have J : Inv X [] σ H { s with heap := h', toks := t' } := I.kept (t' := t') k
  have lt : ∀ {b : Addr} {o : Obj}, s.heap.get? b = some o → b ≠ u := fun {b o} e => Nat.ne_of_lt (Nat.lt_of_lt_of_le (Heap.lt_size e) hu)
  refine ⟨J.ok, J.os, J.bare, J.base, J.loc, J.cell, J.free, J.freeC, fun p hp => ?_, J.hok, J.len⟩
  rw [hpn, List.nil_append, List.mem_singleton] at hp
  subst hp
  refine ⟨ho, I.hok.fresh hu, fun z => ?_, fun z => ?_, hc⟩
  · obtain ⟨m, hn, _⟩ := I.loc
    obtain ⟨oL, es, ep, hL, _⟩ := hn
    exact lt hL z.symm
  · obtain ⟨o2, e2⟩ := hf u z
    exact lt e2 rfl
end
section
variable {w : World} {K : PySem.W.Frag} {mg : Str → Option Value} {base : Heap} {C fI : Addr}
theorem refused_init (S : SupF K C fI) (hsup : mg "super" = none) : ∃ fd, FnOk PR w K mg base CX0 9 fI fd p_E_init (spRf C) ∧ Binds K fd p_E_init [] := by
  obtain ⟨oc, od, osl, kV, doc, pm, an, ct, cda, cc, lk, hcd, ⟨ccl, cdd, vs0, ccs, file, tf, hcda, hvs, hfile⟩, cl, cld, csl, hcc⟩ := S.fn
  refine ⟨PySem.W.fnX "__init__" "Refused.__init__" (defArgs st_E_init) (defBody st_E_init) (defScope st_E_init) [("__class__", cc)] .none kV doc pm an (.ref cda) ct, ⟨fun vs H Q E h => ?_, fun A outer s H args us vs Q E hr e0 hb r hsp => ?_⟩, Binds.all fun us hl => match us, hl with | [_, _], _ => rfl⟩
  · obtain ⟨a, rfl, _⟩ := h
    rfl
  obtain ⟨a, rfl, ha, hq⟩ := hsp
  have KX : K.In s.heap := e0.mod.kin.keeps fun b o e => (e0.bs b o e).1
  have lim : s.heap.NoLimit := e0.mod.nolimit.keeps fun b o e => (e0.bs b o e).1
  obtain ⟨u0, u1, rfl, r0, r1⟩ : ∃ u0 u1, us = [u0, u1] ∧ RelV (.ref a) u0 ∧ RelV (.str "large") u1 := by
    cases r with
    | cons h0 r => cases r with
      | cons h1 r => cases r; exact ⟨_, _, rfl, h0, h1⟩
  obtain rfl : u0 = Value.ref a := r0
  have hK0 : base.get? cc = some ⟨cl, cld, .cell (some (.ref C)), csl⟩ := e0.mod.kin _ _ hcc
  have CA : NdefX.CellsAt (nfE cc cda).cl ["__class__"] [none] s.heap H := by
    have key : ∀ {y : Str} {c : Addr}, ([("__class__", cc)] : List (Str × Addr)).lookup y = some c → y = "__class__" ∧ c = cc := fun {y c} e => by
      rw [List.lookup_cons] at e
      split at e
      · rename_i g
        exact ⟨beq_iff_eq.mp g, (Option.some.inj e).symm⟩
      · cases e
    refine ⟨rfl, fun y c e => ?_, fun x y c h1 h2 => (key h1).1.trans (key h2).1.symm, fun i y hi => ?_⟩
    · obtain ⟨_, rfl⟩ := key e
      exact ⟨(e0.bs _ _ hK0).2, _, _, (e0.bs _ _ hK0).1, rfl⟩
    · match i, hi with
      | 0, hi =>
        cases hi
        exact ⟨cc, rfl, fun v hv => by cases hv⟩
      | i + 1, hi => cases hi
  refine PySem.ks_codeAny_call_defAt hr.depth (KX _ _ lk) rfl lim (PySem.W.codeRec_of KX hcd) rfl hb sE4 (fun x hx => ?_) (fun h1 hns kp => ?_)
  · have hm := (List.of_mem_zip hx).1
    exact nsc_E.par _ hm
  have I : Inv (NdefX.ncx CX0 PR w K mg base N_E_init (nfE cc cda) fI A outer s H E) [] (NdefX.startF N_E_init [.ref a, .str "large"] [none]) H { s with heap := h1, toks := s.toks + 2 } := NdefX.inv_startN nsc_E hr.hd e0 rfl (.cons rfl (.cons r1 .nil)) CA hns kp
  show PySem.wpAt (model PR w) (A.deeper (PySem.W.ksEnv "Refused.__init__" (defScope st_E_init) s.heap.objs.size fI (.ref cda) cc)) (.func (defBody st_E_init) (PySem.W.ksEnv "Refused.__init__" (defScope st_E_init) s.heap.objs.size fI (.ref cda) cc)) (execs (defBody st_E_init) (PySem.W.ksEnv "Refused.__init__" (defScope st_E_init) s.heap.objs.size fI (.ref cda) cc)) _ _ _
  refine PySem.ks_wpAt_execs_cons (PySem.ks_wpAt_Expr_any (PySem.ks_wpAt_MethodCall ?_))
  generalize hX : NdefX.ncx CX0 PR w K mg base N_E_init (nfE cc cda) fI A outer s H E = X at I
  have kh1 : ∀ b o, base.get? b = some o → h1.get? b = some o := fun b o e => kp _ _ (e0.bs b o e).1
  have KX1 : K.In h1 := e0.mod.kin.keeps kh1
  obtain ⟨nm, qn, N, bs, bm, sn, sub, ab, col, dd, k0, k1, k2, k3, k5, hC, hbm⟩ := S.oex.cls
  obtain ⟨t1, hoe⟩ := exo_at I.hok ha
  refine PySem.ks_wpAt_super_base (f := fI) (cc := cda) (of := ⟨oc, od, .func (PySem.W.fnX "__init__" "Refused.__init__" (defArgs st_E_init) (defBody st_E_init) (defScope st_E_init) [("__class__", cc)] .none kV doc pm an (.ref cda) ct), osl⟩) sE1 sE2 (by decide +kernel) rfl (KX1 _ _ lk) rfl rfl rfl (KX1 _ _ hcda) rfl hvs (by rw [beq_iff_eq]; exact hfile) (by decide +kernel) ?_
  obtain ⟨mb, bl1, bl2⟩ := e0.mod.blt
  refine PySem.W.ks_loadName_global nsc_E.kind sE1 (Calls.loadGlobal_builtin (mg := mg) (mb := mb) (e0.mod.glob.keeps kh1) hsup (bl1.keeps kh1) ((bl2 "super" (by decide)).trans (by kernel_rfl)) ⟨rfl, ?_⟩)
  refine wpAny_loadName_free (c := cc) (v := .ref C) nsc_E.kind sE2 rfl ⟨_, KX1 _ _ hcc, rfl⟩ ?_
  refine wpAny_loadName_local (v := .ref a) nsc_E.kind sE3 hns rfl ?_
  refine PySem.ks_wpAny_isType_cls (KX1 _ _ hC) rfl ⟨rfl, ?_⟩
  refine PySem.ks_wpAny_call_super (KX1 _ _ hC) rfl hoe rfl (fun c z => by cases z) (PySem.W.looks_mroIn KX1 S.mro) (fun h2 hso k2' => ?_)
  have KX2 : K.In h2 := KX1.keeps k2'
  have hcl : PySem.W.clsIn K C = some { name := nm, bases := bs, mro := .ref C :: bm, ns := N, qualname := qn, hasDict := true, slotNames := sn, subclasses := sub, abstract := ab, collection := col, hasDel := false } := by unfold PySem.W.clsIn; rw [hC]
  have hsup2 : PySem.W.alongIn K "__init__" (((Value.ref C :: bm).dropWhile (· != .ref C)).drop 1) = some (some (.builtin "ValueError.__init__")) := by
    have q := S.sup
    unfold PySem.W.ks_superIn at q
    rw [hcl] at q
    exact q
  have hIa : PySem.W.InstAt h2 a ({ cls := .ref C, dict := none, data := .fields #[.ref t1, .none, .none, .none, .bool false, .none] } : Obj) C none := ⟨k2' _ _ hoe, rfl, rfl, trivial⟩
  refine PySem.W.kxs_getMethod PySem.W.kxs_ValueError hso (PySem.W.looks_opaque KX2 S.tp) (l₀ := .ref C :: bm) (fun A Q E s k q => wpAny_bind ((PySem.W.looks_clsIn KX2 hcl) A _ E s k (wpAny_pure q))) rfl KX2 hsup2 (hIa.type.andThen (PySem.W.looks_subIn KX2 S.ve)) (PySem.W.ks_ne KX2 hIa hcl) (by decide +kernel) ?_
  subst hX
  have I2 : Inv (NdefX.ncx CX0 PR w K mg base N_E_init (nfE cc cda) fI A outer s H E) [(h2.objs.size, PySem.W.kxs_mw "ValueError.__init__" a)] (NdefX.startF N_E_init [.ref a, .str "large"] [none]) H ⟨h2.push (PySem.W.kxs_mw "ValueError.__init__" a), s.gens, s.drawn, s.toks + 2 + 1, s.os⟩ :=
    inv_pin (s := ⟨h2, s.gens, s.drawn, s.toks + 2, s.os⟩) (t' := s.toks + 2 + 1) (I.kept (t' := s.toks + 2) k2') (Nat.le_refl _) (fun b o e => Heap.get?_push_of_some _ e) (Heap.get?_push_at rfl rfl) (fun v z => by cases z) (fun b hb => by
      obtain ⟨_, o, ho, _⟩ := e0.funs.mem hb
      exact ⟨o, k2' _ _ (kp _ _ ho)⟩) rfl
  refine PySem.W.kxs_callWith (i := "ValueError.__init__") (x := a) rfl (Calls.evalArgs_plain ?_)
  refine thn ((pa_cons (pe_op op_add_str pe_str (pv 1)) pa_nil).run _ _ _ _ H (fun vs H1 => vs = [.str ("refused: large" : Str)] ∧ H1 = H) I2 ⟨.str "large", rfl, _, _, rfl, rfl, by decide +kernel, by rw [str_catE], rfl⟩) fun us s1 hh => ?_
  obtain ⟨vs, H1, I3, r3, rfl, rfl⟩ := hh
  obtain ⟨hmw, _⟩ := I3.pin (h2.objs.size, PySem.W.kxs_mw "ValueError.__init__" a) (by simp)
  refine ⟨hmw, ?_⟩
  have hlen : us.length ≤ sizeLine := by
    have e := Paired.length r3
    rw [sizeLine_eq, ← e]
    decide
  obtain ⟨t2, hoe2⟩ := exo_at I3.hok ha
  have hC2 := I3.kIn _ _ hC
  obtain ⟨hh, g, d, tk, os⟩ := s1
  refine wpAny_call (codeAny_of_tree ?_)
  show wpAny _ _ (callAny (.ref h2.objs.size) ⟨us, []⟩) _ _ _
  simp only [callAny]
  refine wpAny_bind (wpAny_load hmw ?_)
  simp only [PySem.W.kxs_mw, show (Value.type "method-wrapper" == Value.type "method" || Value.type "method-wrapper" == Value.type "builtin_function_or_method" || Value.type "method-wrapper" == Value.type "method-wrapper") = true by decide, if_true]
  refine PySem.W.KFB.if_so (by decide) ?_
  refine wpAny_bind (PySem.W.check_bound_init PySem.F.excBase_ValueError.toExcCallFacts hC2 hoe2 rfl ?_)
  refine wpAny_bind (wpAny_pure (wpAny_pure ?_))
  refine ⟨plainId_quiet PySem.F.excBase_ValueError.init.plain _, codeAny_builtin PySem.F.excBase_ValueError.initEntry ?_⟩
  refine PySem.W.exc_init_tree (cls := .ref C) (t0 := t2) (dv := none) (c2 := .none) (c3 := .none) (b4 := .bool false) hoe2 hlen (fun h3 k3 hx3 _ => ?_)
  have J := I3.write (t' := tk) (x := a) (e := a) (o := exo a C none) (by rw [ha]; exact True.intro) (.inl rfl) k3 ⟨_, hx3⟩ (exo_ok hx3)
  have eu : upd H1 a (exo a C none) = H1 := by
    funext b
    by_cases hb : b = a
    · rw [hb, upd_same, ha]
    · rw [upd_ne hb]
  rw [eu] at J
  refine wpAt_of_wpAny (wpAny_mono ((pss_one (ps_ost (X := NdefX.ncx CX0 PR w K mg base N_E_init (nfE cc cda) fI A outer s H1 E) (pv 0) (pv 1))).run _ _ _ _ { nx := fun _ H' => Q .non H', rt := Q } J ⟨.str "large", rfl, .ref a, rfl, a, C, rfl, S.oex, S.no, .inl ⟨ha, fun dx hd hn => hq dx hd hn⟩⟩) (fun fl s' hs => ?_) fun e s' hs => hs)
  cases fl with
  | ret u =>
    obtain ⟨v, σ', H', J', rv, q⟩ := hs
    exact ⟨v, H', J'.os, J'.bare, J'.base, J'.hok, rv, q⟩
  | next =>
    obtain ⟨σ', H', J', q⟩ := hs
    exact ⟨V.non, H', J'.os, J'.bare, J'.base, J'.hok, rfl, q⟩
  | brk =>
    obtain ⟨_, _, _, q⟩ := hs
    exact False.elim q
  | cont =>
    obtain ⟨_, _, _, q⟩ := hs
    exact False.elim q
end
end K31
set_option Elab.async false
set_option linter.all false
set_option maxRecDepth 100000
set_option maxHeartbeats 2000000
/-! T18: an except suite that calls a plain method, asks isinstance, reads a field; try .. except X as e. -/
namespace K31
open PySem PySem.Spec L2
/-- room for calls, an exception being handled or not -/
structure RoomC (k : Nat) (A : Around) : Prop where
  dp : A.depth + 3 * k + 5 < recursionLimit
  un : A.units + 16 * k + 200 < cLine
theorem RoomC.depth {k : Nat} {A : Around} (r : RoomC k A) : A.depth < recursionLimit := by have := r.dp; omega
/-- the context of a def's body, called while an exception is handled -/
def cxC (P : Program) (w : World) (K : PySem.W.Frag) (mg : Str → Option Value) (base : Heap) (N : List Str) (qual : Str) (scope : Scope) (f : Addr) (cdv : Value) (A : Around) (outer : List Env) (s : Shared) (H : Hp) : Cx :=
  { cx0 P w K mg base N qual scope f cdv A outer s H E0 with calm := false }
structure FnC (P : Program) (w : World) (K : PySem.W.Frag) (mg : Str → Option Value) (base : Heap) (k : Nat) (f : Addr) (fd : FuncData) (ps : List Str) (Ps : List VP) (R : VP) : Prop where
  len : Ps.length = ps.length
  run : ∀ (A : Around) (outer : List Env) (s : Shared) (H : Hp) (args : Args) (us : List Value) (vs : List V) (Q : VK), RoomC k A → Env0 P w K mg base A outer s H → BindsTo s fd args (ps.zip us) → Vals vs us → spV Ps R vs H Q E0 →
    codeAny (model P w) A (.call (.ref f) args) (CR CX0 outer P w H s Q E0) s
section
variable {P : Program} {w : World} {K : PySem.W.Frag} {mg : Str → Option Value} {base : Heap} {x qual : Str} {params : Arguments} {body : List Stmt} {scope : Scope} {dvs : List V} {kws : List (Str × V)} {f : Addr} {fd : FuncData} {N ps : List Str} {k : Nat} {Ps : List VP} {R : VP}
theorem fnC_V (F : FunD K x qual params body scope dvs kws f fd) (S : FnScope N ps scope) (hl : Ps.length = ps.length)
    (hb : ∀ (cdv : Value) (A : Around) (outer : List Env) (s : Shared) (H : Hp) (Q : VK), (∀ v H', Same H H' → R.p v H' → Q v H') →
      SOk (cxC P w K mg base N qual scope f cdv A outer s H) body H (startC N.length Ps) [] { nx := fun _ H' => Q .non H', rt := Q }) : FnC P w K mg base (k + 1) f fd ps Ps R := by
  obtain ⟨oc, od, dV, kV, doc, pm, an, cdv, ct, osl, rfl, lk, hcd, _, _⟩ := F.ex
  refine ⟨hl, fun A outer s H args us vs Q hr e0 hbd r hsp => ?_⟩
  have hl2 : vs.length = ps.length := by rw [hsp.1.len, hl]
  have KX : K.In s.heap := e0.mod.kin.keeps fun b o e => (e0.bs b o e).1
  have lim : s.heap.NoLimit := e0.mod.nolimit.keeps fun b o e => (e0.bs b o e).1
  have hkind : ∀ y ∈ ps.zip us, scope.names.lookup y.1 = some .local ∨ (scope.names.lookup y.1 = some .cell ∧ ((cellsFrom (s.heap.objs.size + 1) scope.names []).lookup y.1).isSome = true) := fun ⟨n, v⟩ hy => by
    rcases S.par n (List.of_mem_zip hy).1 with q | q
    · exact .inl q
    · exact .inr ⟨q, PySem.W.cellsFrom_some _ _ _ (.inl q)⟩
  refine codeAny_call_function hr.depth (KX _ _ lk) rfl S.co S.gen rfl (PySem.W.codeRec_of KX hcd) (hbd _ _ _ _ ?_)
  refine wpAny_newFunctionEnv_cells S.kind hkind fun env he s1 x => ?_
  subst he
  refine ⟨lim.keeps x.toInCall.keep, codeAny_func ?_⟩
  have I0 : Inv (cxOf CX0 P w K mg base N qual scope f cdv { A with handled := none } outer s H E0) [] (start N vs) H s1 := inv_start S rfl ⟨e0.frames, e0.mod, e0.bs, e0.bsz, e0.funs, e0.frf, e0.hok, e0.bare⟩ hl2 r x
  have k0 := I0.ok
  have I : Inv (cxC P w K mg base N qual scope f cdv A outer s H) [] (start N vs) H s1 :=
    ⟨⟨k0.mod, k0.kind, k0.glob, k0.blt, k0.above, k0.inj, k0.has, k0.cab, (fun z => absurd (show false = true from z) Bool.false_ne_true), Around.frames_deeper e0.frames, k0.stk, k0.exf, k0.bs, k0.bsz, k0.noex, k0.exfs, k0.funs, k0.frf⟩, I0.os, I0.bare, I0.base, I0.loc, I0.cell, I0.free, I0.freeC, I0.pin, I0.hok, I0.len⟩
  refine wpAny_mono (hb cdv A outer s H Q hsp.2 (start N vs) H H (Same.refl H) (okS_start hsp.1) (okm_nil H) [] s1 I) (fun fl s' hs => ?_) fun e s' hs => hs.elim
  have fin : ∀ {σ' : L2.St} {H' : Hp} {v : V} {u : Value}, Inv (cxC P w K mg base N qual scope f cdv A outer s H) [] σ' H' s' → RelV v u → Q v H' → CE outer P w H s Q u s' :=
    fun {σ' H' v u} J rv q => ⟨v, H', J.os, J.bare, J.base, J.hok, rv, q⟩
  cases fl with
  | ret u =>
    obtain ⟨v, σ', H', J, rv, q⟩ := hs
    exact fin J rv q
  | next =>
    obtain ⟨σ', H', J, q⟩ := hs
    exact fin (v := V.non) (u := Value.none) J rfl q
  | brk =>
    obtain ⟨_, _, _, q⟩ := hs
    exact False.elim q
  | cont =>
    obtain ⟨_, _, _, q⟩ := hs
    exact False.elim q
end
section
variable {X : Cx} {k : Nat} {f C : Addr} {fd : FuncData} {ps : List Str} {G : Ctx} {M : MCtx} {o : Expr} {m : Str} {apos pos : Pos} {R : VP} {fs : List (Str × VP)}
theorem run_fnC {pins : List (Addr × Obj)} {σ : L2.St} {H : Hp} {s : Shared} {Q : VK} {us : List Value} {vs : List V} {Ps : List VP} (F : FnC X.prog X.w X.K X.mg X.base k f fd ps Ps R) (hr : RoomC k X.A) (hb : Binds X.K fd ps [])
    (I : Inv X pins σ H s) (r : Vals vs us) (h : spV Ps R vs H Q E0) : wpAny (model X.prog X.w) X.A (call (.ref f) us) (EP X pins σ Q) X.xe s := by
  have hl : us.length = ps.length := by rw [← r.length, h.1.len, F.len]
  have b := hb s us I.kIn (by rw [List.append_nil]; exact hl)
  rw [List.append_nil] at b
  refine wpAny_call (codeAny_mono (F.run X.A X.stack s H ⟨us, []⟩ us vs Q hr I.env0 b r h) fun r s' hq => ?_)
  cases r with
  | error e => exact False.elim hq
  | ok fl =>
    cases fl with
    | ret u => exact I.after hq
    | next => exact False.elim hq
    | brk => exact False.elim hq
    | cont => exact False.elim hq
/-- o.m() -/
theorem e_mthC {ks : List Str} {pl : Sem Bool} (c : Cls X.K C) (hmt : Meth X.K C m f) (F : FnC X.prog X.w X.K X.mg X.base k f fd ps [vIn C fs] R) (hb : Binds X.K fd ps []) (hks : fs.map (·.1) = ks) (hm : ks.contains m = false) (hr : RoomC k X.A) (ho : TyE X o G [] (vIn C fs))
    (ht : eval (.Call (.Attribute o m apos) [] [] pos) X.env = (do
      let ov ← eval o X.env
      standAt apos.atName
      let (f, first) ← holding [ov] (getMethod ov m pl)
      callWith pos f first (backTo pos (starEach [] X.env)) (backToKw pos (keywordEach [] X.env))) := by rfl) :
    TyE X (.Call (.Attribute o m apos) [] [] pos) G [] R := by
  refine ⟨fun pins s σ H Q I h => ?_⟩
  obtain ⟨Hf, ok, mm, q⟩ := h
  have e := mm.nil
  subst e
  refine PySem.W.methodCall_KW (pl := pl) (thn (ho.run pins s σ H (fun v H1 => Same H H1 ∧ (vIn C fs).p v H1) I ⟨H, ok, okm_nil H, fun v Hf' H' s m' p => by
    have e := m'.nil
    subst e
    exact ⟨s, p⟩⟩) fun u s1 ⟨x, H1, I1, rx, sm, p⟩ => ?_) ht
  have p' := p
  obtain ⟨a, dx, gs, rfl, hy, fi⟩ := p
  obtain rfl : u = Value.ref a := rx
  refine getmeth_ok I1 hy c hmt (lookup_keys (by rw [keys_FIt fi, hks]; exact hm)) ?_
  exact PySem.W.callWith_K0 (first := [.ref a]) I1.kIn hmt.kp (run_fnC (us := [.ref a]) (vs := [.ref a]) F hr hb I1 (.cons rfl .nil) ⟨⟨p', trivial⟩, fun v H' s' r => q v H' H' (sm.trans s') (okm_nil _) r⟩)
end
section
variable {P : Program} {w : World} {K : PySem.W.Frag} {mg : Str → Option Value} {base : Heap}
theorem order_C (V : Ev P K mg) (A : List RF) : ∃ fd, FnC P w K mg base 1 (He.fAd K ("Operator", some "order")) fd p_O_order [vO K A] (vI ((A.length : Nat) - 1)) ∧ Binds K fd p_O_order [] := by
  obtain ⟨fd, F⟩ := V.W.fd_O_order
  refine ⟨fd, fnC_V F sc_O_order rfl fun cdv A' outer s H Q q => ?_, b1 F⟩
  exact s_retV (e_eq (e_bin (e_blt (c_len rfl) rfl V.W.fr_len PySem.boot_len (a_cons (e_sqT (e_co V rfl (e_nm 0))) a_nil)) (e_int (i := 1)) o_sub) (by rw [vFs_len])) rfl q
end
end K31
set_option Elab.async false
set_option linter.all false
set_option maxRecDepth 100000
set_option maxHeartbeats 2000000
/-! T19: the exception that is held: isinstance, its field; try .. except X as e; raise Refused(..). -/
namespace PySem.W
open PySem PySem.Spec PySem.Calls PyProof.Rows
section
variable {prog : Program} {w : World} {A : Around} {E : Value → Shared → Prop} {s : Shared} {K : Frag} {x D : Addr} {ox : Obj}
theorem k31_findObj {C : Addr} {name : Str} {a g : Value} {od : Option Obj} (hc : (clsIn K C).isSome = true) (ha : findIn K (.ref C) name = some (some a)) (hg : specialIn K a "__get__" = some (some g)) (ht : takesIn K a = some true) : findObj K C od name = some (.bind g a) := by
  obtain ⟨cd, hc⟩ := Option.isSome_iff_exists.mp hc
  unfold findObj
  rw [hc, Option.bind_some, ha, Option.bind_some]
  simp [hg, ht]
theorem k31_classE {od : Option Obj} {Q : Option Value → Shared → Prop} (hga : findIn K (.ref D) "__getattribute__" = some (some (.builtin "BaseException.__getattribute__"))) (hgt : findIn K (.ref D) "__getattr__" = some none) (hsub : subIn K (.ref D) (.type "BaseException") = some true)
    (hdct : hasDictIn K D = true) (ha : findIn K (.ref D) "__class__" = some (some (.builtin "object.__class__")))
    (hn : specialIn K (.builtin "object.__class__") "__get__" = some (some (.builtin "getset_descriptor.__get__"))) (htk : takesIn K (.builtin "object.__class__") = some true) (hm : mroIn K D (.type "object") = some true)
    (X : K.In s.heap) (I : InstAt s.heap x ox D od) (h : Q (some (.ref D)) { s with toks := s.toks + 1 }) : wpAny (model prog w) A (getAttr? (.ref x) "__class__") Q E s := by
  have hf : findObj K D od "__class__" = some (.bind (.builtin "getset_descriptor.__get__") (.builtin "object.__class__")) := k31_findObj (by obtain ⟨cd, hc, _⟩ := any_some hdct; rw [hc]; rfl) ha hn htk
  obtain ⟨hp, g, d, t, os⟩ := s
  have L0 := I.type (M := model prog w)
  have L1 := looks_findIn (M := model prog w) X hga
  have L2 := looks_findIn (M := model prog w) X hgt
  have L3 := looks_find (M := model prog w) X I hf
  have sub : Looks (model prog w) hp (isInstance (.ref x) (.type "BaseException")) true := L0.andThen (looks_subIn X hsub)
  have hx0 : (false && onTheHeap (Value.builtin "BaseException.__getattribute__")) = false := rfl
  have hx2 : (Value.builtin "BaseException.__getattribute__" == Value.builtin "object.__getattribute__") = false := by decide +kernel
  have hx1 : (onTheHeap (Value.ref D) && Value.builtin "BaseException.__getattribute__" == Value.builtin "object.__getattribute__") = false := by rw [hx2]; rfl
  unfold getAttr? getAttrBy? getAttrBy
  refine wpAny_bind (wpAny_mkText (wpAny_bind (wpAny_attempt (wpAny_holding (wpAny_bind (L0.at (wpAny_bind (L1.at ?_))))))))
  show wpAny _ _ (if (onTheHeap (Value.ref D) && Value.builtin "BaseException.__getattribute__" == Value.builtin "object.__getattribute__") = true then _ else _) _ _ _
  rw [hx1, if_neg Bool.false_ne_true]
  unfold getAttrByItsOwn hookBefore
  refine wpAny_bind ?_
  rw [if_pos (show onTheHeap (Value.ref D) = true from rfl)]
  refine L2.at ?_
  refine wpAny_bind (wpAny_attempt (wpAny_holding ?_))
  unfold callGetattribute
  rw [hx0, if_neg Bool.false_ne_true]
  unfold boundAndCalled
  rw [PySem.F.excAttr_ValueError.ga.bind (.ref x)]
  refine wpAny_bind (wpAny_pure ?_)
  show wpAny _ _ (call (.builtin "BaseException.__getattribute__") [.ref x, .str "__class__" t]) _ _ _
  refine wpAny_call (codeAny_call_builtin PySem.F.excAttr_ValueError.ga.plain PySem.F.entry_bexc_ga ?_)
  refine @check_slot (model prog w) _ _ ⟨hp, g, d, t + 1, os⟩ "BaseException.__getattribute__" "BaseException" "__getattribute__" (.ref x) [.str "__class__" t] [] _ (by decide +kernel) (by decide +kernel) sub (PySem.F.args_bexc_ga (.ref x) (.str "__class__" t)) ?_
  unfold Builtin.«object.__getattribute__»
  refine wpAny_bind (wpAny_of_eq (a := ((Value.ref x : Value), [Value.str "__class__" t])) (by first | rfl | (simp only [slotArgs]; rfl)) ?_)
  refine wpAny_bind (wpAny_pure (wpAny_bind (L0.at (wpAny_bind (L3.at ?_)))))
  show wpAny _ _ (holding [Value.builtin "object.__class__"] (call (.builtin "getset_descriptor.__get__") [.builtin "object.__class__", .ref x, .ref D]) >>= ret) _ _ _
  refine wpAny_bind (wpAny_holding (wpAny_call (class_get (s := ⟨hp, g, d, t + 1, os⟩) (ox := ox) (od := od) X I hm ?_)))
  refine wpAny_pure ?_
  show wpAny _ _ (handedOut (.ref D)) _ _ _
  rw [handedOut_of (v := .ref D) rfl]
  first
    | exact wpAny_pure (wpAny_pure h)
    | exact wpAny_pure h
    | exact wpAny_pure (wpAny_bind (wpAny_pure (wpAny_pure h)))
theorem k31_kitx (hga : findIn K (.ref D) "__getattribute__" = some (some (.builtin "BaseException.__getattribute__"))) (hgt : findIn K (.ref D) "__getattr__" = some none) (hsub : subIn K (.ref D) (.type "BaseException") = some true) (hdct : hasDictIn K D = true) (ha : findIn K (.ref D) "__class__" = some (some (.builtin "object.__class__")))
    (hn : specialIn K (.builtin "object.__class__") "__get__" = some (some (.builtin "getset_descriptor.__get__"))) (htk : takesIn K (.builtin "object.__class__") = some true) (hm : mroIn K D (.type "object") = some true) :
    KitX K (.ref x) (.ref D) (fun h => ∃ od, InstAt h x ox D od) where
  ty := fun _ _ _ ⟨_, I⟩ => I.type
  it := fun _ _ X _ => by
    obtain ⟨cdD, hcD, _⟩ := any_some hdct
    unfold clsIn at hcD
    split at hcD
    · rename_i c' d' cd' sl' ho
      intro A' Q' E' s' k q
      unfold isType loadHead
      exact wpAny_bind (wpAny_loadPart (k _ _ (X _ _ ho)) (wpAny_pure q))
    · cases hcD
  ne := fun h tp dd its n sl X htp => by
    obtain ⟨cdD, hcD, _⟩ := any_some hdct
    refine Bool.eq_false_iff.mpr fun q => ?_
    have e : D = tp := Value.ref.inj (beq_iff_eq.mp q)
    subst e
    unfold clsIn at hcD
    split at hcD
    · rename_i c' d' cd' sl' ho
      have z := (X _ _ ho).symm.trans htp
      cases z
    · cases hcD
  ca := fun X ⟨_, I⟩ k => k31_classE hga hgt hsub hdct ha hn htk hm X I k
end
end PySem.W
namespace K31
open PySem PySem.Spec L2
/-- the exception that is held at a, its dict at dd -/
def vXd (a dd : Addr) (fs : List (Str × V)) : VP := ⟨fun v H => v = .ref a ∧ H dd = some (.xd fs), fun _ _ _ s h => ⟨h.1, s _ _ h.2⟩⟩
section
variable {X : Cx} {a C dd : Addr} {oe : Obj} {pn : List (Addr × Obj)} {fs : List (Str × V)} {e : Expr} {G : Ctx} {pos : Pos} {n : Str}
theorem e_xf {v : V} (T : XfC X.K C) (hno : PySem.W.findIn X.K (.ref C) n = some none) (hz : Zc (.ref C) (some dd) oe) (hf : ∃ vs, oe.data = .fields vs) (he : TyE (X.suite a ((a, oe) :: pn)) e G [] (vXd a dd fs)) (hl : fs.lookup n = some v) (hb : attributeBase e n X.env (eval e X.env) = eval e X.env := by rfl) :
    TyE (X.suite a ((a, oe) :: pn)) (.Attribute e n pos) G [] (vC v) :=
  PE.imp (pe_xf (cls := .ref C) (d := some dd) T hno hz hf he hb) fun t H Q ⟨Hf, o, m, k⟩ => ⟨Hf, o, m, fun x Hf' H' s m' ⟨e1, e2⟩ => by
    have e := m'.nil
    subst e
    exact ⟨e1, rfl, dd, fs, v, rfl, e2, hl, k v H' H' s m' rfl⟩⟩
theorem c_isX {cv : Value} {c : V} {b : Bool} (T : XfC X.K C) (i : Ins X.K C) (hn : PySem.W.specialIn X.K (.builtin "object.__class__") "__get__" = some (some (.builtin "getset_descriptor.__get__"))) (htk : PySem.W.takesIn X.K (.builtin "object.__class__") = some true)
    (hz : Zc (.ref C) (some dd) oe) (hf : ∃ vs, oe.data = .fields vs) (hcv : ∀ u, RelV c u → u = cv) (hk : PySem.W.kitOne X.K (.ref C) cv = some b) : CbT (X.suite a ((a, oe) :: pn)) (.builtin "isinstance") [vXd a dd fs, vC c] (vB b) := by
  intro pins s σ H xs us Q I r h
  obtain ⟨its, q⟩ := h
  obtain ⟨x, y, rfl, ⟨e1, e2⟩, e3⟩ := it2 its
  have e3 : y = c := e3
  subst e1 e3
  cases r with
  | cons rx rr =>
    cases rr with
    | cons rt rr =>
      cases rr
      cases rx
      have ec := hcv _ rt
      subst ec
      obtain ⟨hget, _⟩ := I.pin (a, oe) (List.mem_append.mpr (.inl List.mem_cons_self))
      obtain ⟨vs, hv⟩ := hf
      have hx : ObjOk X.prog X.w H s.heap dd (.xd fs) := I.hok dd _ e2
      obtain ⟨mA, hns, hr⟩ := hx
      obtain ⟨od, ho, hl⟩ := lookIn_ns hns
      have J : PySem.W.InstAt s.heap a oe C (some od) := ⟨hget, hz.1, by unfold PySem.W.notCls; rw [hv] <;> rfl, by rw [hz.2]; exact ho⟩
      exact PySem.W.kia_one (PySem.W.k31_kitx (ox := oe) T.ga T.gg T.exC T.hdC i.ha hn htk i.hm) I.kIn ⟨_, J⟩ hk (fun z => nomatch z) fun tk => ⟨.bl b, H, I.kept (t' := tk) fun _ _ z => z, rfl, q _ H (Same.refl H) rfl⟩
end
section
variable {X : Cx} {C : Addr} {G : Ctx} {H0 : Hp} {D : Ends} {rest : List Stmt} {pos : Pos} {W : WX} {fs : List (Str × V)}
/-- try: .. except X as n: .. -/
theorem s_tryAs (g : Prop) (i : Nat) {x n : Str} {c : Value} {body suite : List Stmt} {b₀ : Stmt} {np pos' : Pos} (hs : X.stack = X.env :: X.outer) (hf : X.env.frame = some X.env.locals) (hN : X.N.Nodup) (hi : X.N[i]? = some n) (hln : X.env.kindOf n = some .local) (hc : Names X x c) (hm : PySem.W.exmOne X.K (.ref C) c = some true) (tk : Takes X W)
    (hb : ∀ (W' : WX) (pn : List (Addr × Obj)) (xe : Value → Shared → Prop), Takes (X.tr pn xe) W' → PassesOwn (model X.prog X.w) X.A X.env xe → (g → ∀ d t H, Same H0 H → OkS G t H → H d = some (.xd fs) → W' (.ref C) (some d) t H) → SOk (X.tr pn xe) body H0 G [] { D with nx := Go X rest D })
    (hsu : g → ∀ (a d : Addr) (oe : Obj) (pn : List (Addr × Obj)) (D' : Ends), D'.rt = D.rt → Zc (.ref C) (some d) oe → (∃ vs, oe.data = .fields vs) → SOk (X.suite a ((a, oe) :: pn)) (b₀ :: suite) H0 (G.set i (some (vXd a d fs))) [] D') :
    SOk X (.Try body [.ExceptHandler (some (.Name x np)) (some n) (b₀ :: suite) pos'] [] [] pos :: rest) H0 G [] D := by
  refine s_cons (ps_try_as (i := i) (tb := fun W' D t H => ∀ (pn : List (Addr × Obj)) (xe : Value → Shared → Prop), Takes (X.tr pn xe) W' → PassesOwn (model X.prog X.w) X.A X.env xe → Go (X.tr pn xe) body D t H) (ts := fun a cls d D t H => ∀ (oe : Obj) (pn : List (Addr × Obj)), Zc cls d oe → (∃ vs, oe.data = .fields vs) → Go (X.suite a ((a, oe) :: pn)) (b₀ :: suite) D t H) hs hf hN hi hln hc tk (fun W' pn xe tk' po => ⟨fun pins s t H D I h => h pn xe tk' po pins s I⟩) fun a oe cls d pn hz hv => ⟨fun pins s t H D I h => h oe pn hz hv pins s I⟩) fun t Hf H s ok m => ?_
  intro pn xe tk' po
  refine hb _ pn xe tk' po (fun hg d t2 H2 s2 ok2 hd => ⟨true, hm, fun _ a na oe pn2 hz hv => ?_, fun z => absurd z (by decide)⟩) t Hf H s ok m
  exact hsu hg a d oe pn2 { nx := fun σ' H' => Go X rest D (σ'.set i none) H', rt := D.rt, bk := fun σ' H' => D.bk (σ'.set i none) H', ct := fun σ' H' => D.ct (σ'.set i none) H' } rfl hz hv _ H2 H2 s2 (ok2.set ⟨rfl, hd⟩) (okm_nil H2)
end
/-- a promise that raises Refused with its reason -/
def spZD (C : Addr) (Ps : List VP) (fs : List (Str × V)) : Sp := fun vs H Q E => Items Ps vs H ∧ ∀ d H', Same H H' → H' d = some (.xd fs) → E (.ref C) (some d) H'
section
variable {P : Program} {w : World} {K : PySem.W.Frag} {mg : Str → Option Value} {base : Heap} {x qual : Str} {params : Arguments} {body : List Stmt} {scope : Scope} {dvs : List V} {kws : List (Str × V)} {f C : Addr} {fd : FuncData} {N ps : List Str} {k : Nat} {Ps : List VP} {fs : List (Str × V)}
theorem fn_ZD (F : FunD K x qual params body scope dvs kws f fd) (S : FnScope N ps scope) (hl : Ps.length = ps.length)
    (hb : ∀ (cdv : Value) (A : Around) (outer : List Env) (s : Shared) (H : Hp) (E : XK) (D : Ends), Room k (A.deeper (PyProof.Rows.envOfC qual scope s.heap.objs.size f cdv)) → Takes (cxX P w K mg base N qual scope f cdv A outer s H E) (fun cls d _ H => E cls d H) → (∀ d H', Same H H' → H' d = some (.xd fs) → E (.ref C) (some d) H') →
      SOk (cxX P w K mg base N qual scope f cdv A outer s H E) body H (startC N.length Ps) [] D) : FnOk P w K mg base (L2.CX P w) (k + 1) f fd ps (spZD C Ps fs) :=
  FunD.ok F S (fun vs H Q E h => by rw [h.1.len, hl]) fun cdv A outer s H vs Q E hr h =>
    ⟨_, go_pss, hb cdv A outer s H E _ hr (takes_of rfl rfl rfl rfl) h.2 _ H H (Same.refl H) (okS_start h.1) (okm_nil H)⟩
end
section
variable {X : Cx} {CX : CXT} {k j n : Nat} {f C fI : Addr} {fd : FuncData} {ps ks : List Str} {sp : Sp} {x : Str} {p pos pos2 : Pos} {e : Expr} {es : List Expr} {kws : List Keyword} {t tk : TA} {g : List Value → List Value → List Value} {gV : List V → List V → List V} {G : Ctx} {M : MCtx} {H0 : Hp} {D : Ends} {rest : List Stmt} {W : WX}
/-- raise Refused('large') -/
theorem s_raiseR {jj : Nat} {p2 : Pos} (S : SupF X.K C fI) (F : ∃ fd, FnOk X.prog X.w X.K X.mg X.base CX0 9 fI fd p_E_init (spRf C) ∧ Binds X.K fd p_E_init []) (gC : X.mg x = some (.ref C)) (hr : Room 10 X.A) (hg : Gl X x) (tk : Takes X W)
    (hW : ∀ d t H, Same H0 H → OkS G t H → H d = some (.xd [("reason", .str "large")]) → W (.ref C) (some d) t H) (hc : X.calm = true := by rfl) (hdb : (x == ("__debug__" : Str)) = false := by decide) (he : starEach ([.Constant (.str "large") jj p2] : List Expr) X.env = (false, eval (.Constant (.str "large") jj p2) X.env) :: starEach [] X.env := by rfl) : SOk X (.Raise (some (.Call (.Name x p) [.Constant (.str "large") jj p2] [] pos)) none pos2 :: rest) H0 G [] D := by
  obtain ⟨fd, F, b⟩ := F
  refine s_cons (ps_raise hc tk (pmk_oex (dvs := []) S.oex S.iC S.tI F hr b .nil pass0 hg gC (pa_cons pe_str pa_nil he) hdb he)) fun t Hf H s ok m => ?_
  have e := m.nil
  subst e
  refine ⟨show (1 : Nat) ≤ 1000 by decide, fun a ha => ⟨a, rfl, upd_same, fun dx h1 h2 => ⟨rfl, dx, [("reason", .str "large")], upd_same, ?_, ?_, ?_⟩⟩⟩
  · rw [upd_ne h2, upd_same]
  · rw [upd_ne h2] at h1
    exact h1
  · rw [upd_ne h2] at h1
    have sm : Same H (upd (del (upd (upd (upd H a (exo a C none)) dx (exd dx [("reason", .str "large")])) a (exo a C (some dx))) a) dx (.xd [("reason", .str "large")])) := fun b u hb => by
      have n1 : b ≠ dx := ne_of_none hb h1
      have n2 : b ≠ a := ne_of_none hb ha
      rw [upd_ne n1, del_ne n2, upd_ne n2, upd_ne n1, upd_ne n2]
      exact hb
    exact hW dx t _ (s.trans sm) (ok.mono sm) upd_same
def tCallNS (n m : Nat) (sp : Sp) (gV : List V → List V → List V) (E : L2.St → XK) (t tk : TA) : TE := fun σ H Q => t σ H fun vs H1 => tk σ H1 fun zs H2 => vs.length = n ∧ zs.length = m ∧ sp (gV vs zs) H2 Q (E σ)
/-- f(e, .., k = v, ..) that may raise -/
theorem pe_callNS {E : L2.St → XK} (F : FnOk X.prog X.w X.K X.mg X.base CX k f fd ps sp) (hr : Room k X.A) (hg : Gl X x) (hm : X.mg x = some (.ref f)) (hk : PySem.W.keepIn X.K (.ref f) = true) (hb : KBn X.K fd ps n ks g gV) (hx : ∀ σ, PassesAt CX X σ (E σ))
    (ha : PA X (e :: es) t) (hkw : PK X kws tk) (hall : (backToKw pos (keywordEach kws X.env)).all (·.1.isSome) = true := by rfl) (hks : (backToKw pos (keywordEach kws X.env)).filterMap (·.1) = ks := by rfl)
    (hdb : (x == ("__debug__" : Str)) = false := by decide) (he : starEach (e :: es) X.env = (false, eval e X.env) :: starEach es X.env := by rfl)
    (hpl : ((backTo pos (starEach (e :: es) X.env)).any (·.1) || (backToKw pos (keywordEach kws X.env)).any (·.1.isNone)) = false := by rfl) :
    PE X (.Call (.Name x p) (e :: es) kws pos) (tCallNS n ks.length sp gV E t tk) := by
  refine ⟨fun pins s σ H Q I h => ?_⟩
  refine wpAny_Call_Name_kw (ld_glob I hg hm ?_ hdb)
  refine PySem.W.callWith_KW (h₀ := X.base) I.ok.mod.kin hk hall (thn (ha.run pos pins s σ H _ I h) fun us s1 ⟨vs, H1, I1, r, q⟩ => ?_) hpl he
  refine thn (hkw.run pos pins s1 σ H1 _ I1 q) fun ws s2 ⟨zs, H2, I2, rz, l1, l2, q2⟩ => ⟨I2.kIn, ?_⟩
  rw [hks]
  have r2 := hb.rel r rz
  refine wpAny_call (codeAny_mono (F.run X.A X.stack s2 H2 ⟨us, ks.zip ws⟩ (g us ws) (gV vs zs) Q (E σ) hr I2.env0 (hb.to s2 us ws I2.kIn (r.length.symm.trans l1) (rz.length.symm.trans l2)) r2 q2) fun r s' hq => ?_)
  cases r with
  | error e => exact hx σ pins H2 s2 e s' I2 hq
  | ok fl =>
    cases fl with
    | ret u => exact I2.after hq
    | next => exact False.elim hq
    | brk => exact False.elim hq
    | cont => exact False.elim hq
theorem o_eqS {i j : Str} : OpT X (compareOp .Eq) (vS i) (vS j) (vB (decide (i = j))) := opT_of op_eq fun x y H e e' Q q => by
  have e : x = .str i := e
  have e' : y = .str j := e'
  subst e e'
  refine ⟨rfl, q _ H (Same.refl H) ?_⟩
  show V.bl (decide (V.str i = V.str j)) = V.bl (decide (i = j))
  congr 1
  exact decide_eq_decide.mpr ⟨fun h => by injection h, fun h => by rw [h]⟩
end
end K31
set_option Elab.async false
set_option linter.all false
set_option maxRecDepth 100000
set_option maxHeartbeats 2000000
/-! W37: _law_is_large. -/
namespace K31
open PySem PySem.Spec L2
section
variable {X : Cx} {CX : CXT} {k n : Nat} {f : Addr} {fd : FuncData} {ps ks : List Str} {x nm : Str} {p pos pos2 kpos : Pos} {e ek : Expr} {es : List Expr} {G : Ctx} {H0 : Hp} {D : Ends} {rest : List Stmt} {Ps : List VP} {Pk R : VP}
theorem pk1 (h : TyE X ek G [] Pk) : PK X [⟨some nm, ek, kpos⟩] (rdA G [] [Pk]) := ⟨fun pos pins s t H Q I w => (pk_cons h pk_nil).run pos pins s t H Q I (by
  obtain ⟨Hf, o, m, k⟩ := w
  exact ⟨Hf, o, m, fun v H1f H1 s1 m1 p => k [v] H1f H1 s1 m1 ⟨p, trivial⟩⟩)⟩
/-- f(e, .., k = v) as a statement -/
theorem s_exprK (F : FnOk X.prog X.w X.K X.mg X.base CX0 k f fd ps (spV (Ps ++ [Pk]) R)) (hr : Room k X.A) (hg : Gl X x) (hm : X.mg x = some (.ref f)) (hk : PySem.W.keepIn X.K (.ref f) = true) (hb : KBn X.K fd ps Ps.length [nm] (fun us ws => us ++ ws) (fun vs zs => vs ++ zs))
    (ha : TyA X (e :: es) G [] Ps) (hkw : TyE X ek G [] Pk) (h : SOk X rest H0 G [] D) (hs : swapsWith (.Call (.Name x p) (e :: es) [⟨some nm, ek, kpos⟩] pos) none pos2.line X.env = pure false := by rfl)
    (hdb : (x == ("__debug__" : Str)) = false := by decide) (he : starEach (e :: es) X.env = (false, eval e X.env) :: starEach es X.env := by rfl)
    (hall : (backToKw pos (keywordEach [⟨some nm, ek, kpos⟩] X.env)).all (·.1.isSome) = true := by rfl) (hks : (backToKw pos (keywordEach [⟨some nm, ek, kpos⟩] X.env)).filterMap (·.1) = [nm] := by rfl)
    (hpl : ((backTo pos (starEach (e :: es) X.env)).any (·.1) || (backToKw pos (keywordEach [⟨some nm, ek, kpos⟩] X.env)).any (·.1.isNone)) = false := by rfl) :
    SOk X (.Expr (.Call (.Name x p) (e :: es) [⟨some nm, ek, kpos⟩] pos) pos2 :: rest) H0 G [] D :=
  s_cons (ps_expr (pe_callN F hr hg hm hk hb pass0 ha (pk1 hkw) hall hks hdb he hpl) hs) fun t Hf H s ok m => ⟨Hf, ok, m, fun vs Hf' H' s' m' its => ⟨Hf', ok.mono s', m', fun zs Hf2 H2 s2 m2 itz => by
    have e := m2.nil
    subst e
    obtain ⟨z, rfl, pz⟩ := it1 itz
    exact ⟨its.len, rfl, (its.mono s2).append ⟨pz, trivial⟩, fun v H3 s3 _ => h t H3 H3 (((s.trans s').trans s2).trans s3) (((ok.mono s').mono s2).mono s3) (okm_nil H3)⟩⟩⟩
theorem s_exprKZ {W : WX} {C : Addr} {fs : List (Str × V)} (F : FnOk X.prog X.w X.K X.mg X.base (L2.CX X.prog X.w) k f fd ps (spZD C (Ps ++ [Pk]) fs)) (tk : Takes X W) (hr : Room k X.A) (hg : Gl X x) (hm : X.mg x = some (.ref f)) (hk : PySem.W.keepIn X.K (.ref f) = true) (hb : KBn X.K fd ps Ps.length [nm] (fun us ws => us ++ ws) (fun vs zs => vs ++ zs))
    (ha : TyA X (e :: es) G [] Ps) (hkw : TyE X ek G [] Pk) (hW : ∀ d t H, Same H0 H → OkS G t H → H d = some (.xd fs) → W (.ref C) (some d) t H) (hs : swapsWith (.Call (.Name x p) (e :: es) [⟨some nm, ek, kpos⟩] pos) none pos2.line X.env = pure false := by rfl)
    (hdb : (x == ("__debug__" : Str)) = false := by decide) (he : starEach (e :: es) X.env = (false, eval e X.env) :: starEach es X.env := by rfl)
    (hall : (backToKw pos (keywordEach [⟨some nm, ek, kpos⟩] X.env)).all (·.1.isSome) = true := by rfl) (hks : (backToKw pos (keywordEach [⟨some nm, ek, kpos⟩] X.env)).filterMap (·.1) = [nm] := by rfl)
    (hpl : ((backTo pos (starEach (e :: es) X.env)).any (·.1) || (backToKw pos (keywordEach [⟨some nm, ek, kpos⟩] X.env)).any (·.1.isNone)) = false := by rfl) :
    SOk X (.Expr (.Call (.Name x p) (e :: es) [⟨some nm, ek, kpos⟩] pos) pos2 :: rest) H0 G [] D :=
  s_cons (ps_expr (pe_callNS F hr hg hm hk hb (passAt tk) ha (pk1 hkw) hall hks hdb he hpl) hs) fun t Hf H s ok m => ⟨Hf, ok, m, fun vs Hf' H' s' m' its => ⟨Hf', ok.mono s', m', fun zs Hf2 H2 s2 m2 itz => by
    have e := m2.nil
    subst e
    obtain ⟨z, rfl, pz⟩ := it1 itz
    exact ⟨its.len, rfl, (its.mono s2).append ⟨pz, trivial⟩, fun d H3 s3 hd => hW d t H3 (((s.trans s').trans s2).trans s3) (((ok.mono s').mono s2).mono s3) hd⟩⟩⟩
end
section
variable {w : World} {K : PySem.W.Frag} {mg : Str → Option Value} {base : Heap}
abbrev fsLarge : List (Str × V) := [("reason", .str "large")]
theorem of_power_large (V : Ev PR K mg) (A : List RF) (u v : RF) (hA : OkTl A) (e : tlF A = [u, v]) : ∃ fd, FunD K "of_power" "of_power" (defArgs st_of_power) (defBody st_of_power) (defScope st_of_power) [] [("most", .int 60)] (He.fAd K ("of_power", none)) fd ∧ FnOk PR w K mg base (L2.CX PR w) 58 (He.fAd K ("of_power", none)) fd p_of_power (spZD (He.ga K "Refused") ([vO K A, vI ((3 : Nat) : Int)] ++ [vI ((2 : Nat) : Int)]) fsLarge) := by
  obtain ⟨fd, F⟩ := V.W.fd_of_power
  have nd := sc_of_power.nd
  refine ⟨fd, F, fn_ZD F sc_of_power rfl fun cdv A' outer s H E D hr tk q => ?_⟩
  refine s_expr (e_callR (check1 V A hA.ne) hr (by omega) rfl (a_cons (e_nm 0) a_nil)) ?_
  refine s_asg 3 (P := vLs (vFs K [u, v])) (e_eq (e_call (tail_c V A hA) hr (by omega) rfl (a_cons (e_nm 0) a_nil)) (by rw [e])) ?_ nd
  refine s_ifR (k := true) (t_eq (t_cmp (e_call (count_monomials_c V 2 3 (by omega) (by omega) (fun k hk => all3 (p := fun k => cmF 2 k ≤ 1000) (by decide) (by decide) (by decide) k hk)) hr (by omega) rfl (a_cons (e_blt (c_len rfl) rfl V.W.fr_len PySem.boot_len (a_cons (e_sqL (e_nm (P := vLs (vFs K [u, v])) 3)) a_nil)) (a_cons (e_nm (P := vI ((3 : Nat) : Int)) 1) a_nil))) (e_nm (P := vI ((2 : Nat) : Int)) 2) o_gt) (decide_eq_true (by decide))) (fun _ => ?_) fun z => absurd z (by decide)
  exact s_raiseR V.W.supF (refused_init V.W.supF V.W.fr_super) V.W.gc_Refused (hr.mono (by omega)) rfl tk fun d t H1 s1 ok hd => q d H1 s1 hd
theorem is_large_c (V : Ev PR K mg) (A : List RF) (h : opOk A) : CalT PR w K mg base 70 "_law_is_large" [vO K A] [] (vB true) := by
  obtain ⟨fd, F⟩ := V.W.fd_law_is_large
  have nd := sc_law_is_large.nd
  have hne := h.ne
  have S := V.W.supF
  refine mk_cal (fn_V F sc_law_is_large rfl fun cdv A' outer s H E Q hr q => ?_) V.W.gl_law_is_large F.kp (b1 F)
  refine s_tryAs (A.length = 3) (fs := fsLarge) (C := He.ga K "Refused") 1 (W := fun _ _ _ _ => False) rfl rfl nd rfl rfl ⟨rfl, by decide, Or.inl V.W.gc_Fault⟩ (He.exm_ok V.W.xm_RF) (fun _ _ ⟨_, _, _, _, _, _, _, _, _, _, _, _, _, _, _, _, w⟩ => w.elim) (fun W' pn xe tk po hW => ?_) (fun hg a d oe pn D' hD hz hv => ?_)
  · have hret : ∀ n, A.length = n → n ≤ 2 → SOk (cx0 PR w K mg base N_law_is_large "_law_is_large" (defScope st_law_is_large) (He.fAd K ("_law_is_large", none)) cdv A' outer s H E) ((defBody st_law_is_large).drop 1) H (startC N_law_is_large.length [vO K A]) [] { nx := fun _ H' => Q .non H', rt := Q } := fun n hn hn2 =>
      s_retV (e_eq (e_cmp (e_mth0 (ks := ["coefficients"]) (O_order V A) rfl (by decide) hr (by omega) (e_nm (P := vO K A) 0)) (e_int (i := 1)) o_le) (show vB _ = vB true by rw [decide_eq_true (by omega)])) rfl q
    rcases h.cases with ⟨c, rfl, i1, h0⟩ | ⟨p, c, rfl, i1, i2, h0⟩ | ⟨p, r, c, rfl, i1, i2, i3, h0⟩
    · obtain ⟨fp, Fp, ok⟩ := of_power_0 (w := w) (base := base) V [c] 2 0 [1] (okPw0 h0 (by omega)) (by omega)
      refine s_exprK (Ps := [vO K [c], vI ((2 + 1 : Nat) : Int)]) (Pk := vI 0) ok (hr.mono (by omega)) rfl V.W.gl_of_power Fp.kp (power_kbn Fp) (a_cons (e_nm (P := vO K [c]) 0) (a_cons e_int a_nil)) (e_mth0 (ks := ["coefficients"]) (O_order V [c]) rfl (by decide) hr (by omega) (e_nm (P := vO K [c]) 0)) ?_
      exact s_endX (hret 1 rfl (by omega)) rfl
    · obtain ⟨fp, Fp, ok⟩ := of_power_1 (w := w) (base := base) V [p, c] 3 1 (-c⁻¹ * p) [-cpF 3 (-c⁻¹ * p), 1] (okPw1 (okTl2 h0 (by omega) (by omega)) rfl (by omega) (by omega) (show 2 + 1 ≤ 20 by omega)) (by omega)
      refine s_exprK (Ps := [vO K [p, c], vI ((3 : Nat) : Int)]) (Pk := vI 1) ok (hr.mono (by omega)) rfl V.W.gl_of_power Fp.kp (power_kbn Fp) (a_cons (e_nm (P := vO K [p, c]) 0) (a_cons e_int a_nil)) (e_mth0 (ks := ["coefficients"]) (O_order V [p, c]) rfl (by decide) hr (by omega) (e_nm (P := vO K [p, c]) 0)) ?_
      exact s_endX (hret 2 rfl (by omega)) rfl
    · obtain ⟨fp, Fp, ok⟩ := of_power_large (w := w) (base := base) V [p, r, c] (-c⁻¹ * p) (-c⁻¹ * r) (okTl3 h0) rfl
      exact s_exprKZ (Ps := [vO K [p, r, c], vI ((3 : Nat) : Int)]) (Pk := vI ((2 : Nat) : Int)) ok tk (hr.mono (by omega)) rfl V.W.gl_of_power Fp.kp (power_kbn Fp) (a_cons (e_nm (P := vO K [p, r, c]) 0) (a_cons e_int a_nil)) (e_mth0 (ks := ["coefficients"]) (O_order V [p, r, c]) rfl (by decide) hr (by omega) (e_nm (P := vO K [p, r, c]) 0)) (hW rfl)
  · obtain ⟨fo, Fo, bo⟩ := order_C (w := w) (base := base) V A
    have hrc : RoomC 1 (A'.deeper (PyProof.Rows.envOfC "_law_is_large" (defScope st_law_is_large) s.heap.objs.size (He.fAd K ("_law_is_large", none)) cdv)) := ⟨by have := hr.dp; omega, by have := hr.un; omega⟩
    refine s_retV (R := vB true) (e_eq (e_and (j := true) (k := true) (e_eq (e_cmp (e_mthC (ks := ["coefficients"]) V.W.cl_O V.W.me_O_order Fo bo rfl (by decide) ⟨hrc.dp, hrc.un⟩ (e_nm (P := vO K A) 0)) (e_int (i := 1)) o_gt) (show vB _ = vB true by rw [decide_eq_true (by omega)]))
      (fun _ => e_eq (e_and (j := true) (k := true) (e_blt (c_isX (c := .ref (He.ga K "Refused")) (cv := .ref (He.ga K "Refused")) S.xf S.ins V.W.m.hn V.W.m.htk hz hv (fun u h => h) S.ins.me) rfl V.W.fr_isinstance PyProof.Rows.boot_isinstance (a_cons (e_nm (P := vXd a d fsLarge) 1) (a_cons (e_cls rfl V.W.gc_Refused) a_nil)))
        (fun _ => e_one (e_eq (e_cmp (e_xf S.xf S.no hz hv (e_nm (P := vXd a d fsLarge) 1) (v := .str "large") rfl) (e_str (z := "large")) o_eqS) (show vB _ = vB true by rw [decide_eq_true rfl])))) rfl)) rfl) hD fun v H2 s2 p2 => q v H2 s2 p2
end
end K31
set_option Elab.async false
set_option linter.all false
set_option maxRecDepth 100000
set_option maxHeartbeats 4000000
/-! N3: of_product of the law's operators and D - u. -/
namespace K31
/-- what of_product gives -/
def PrTo (A B R : List RF) : Prop := OkTl A ∧ OkTl B ∧ (tlF A).length * (tlF B).length ≤ 1000 ∧ ∃ (n : Nat) (rs : List Row) (r : Option (List RF)), InsTo ((tlF A).length * (tlF B).length) 0 [] (unF ((tlF A).length * (tlF B).length) 0) rs r ∧ PrRun (tlF A) (tlF B) ((tlF A).length * (tlF B).length) R n 1 rs (unF ((tlF A).length * (tlF B).length) 0) r
theorem prTo_of {A B R F S : List RF} {wd n : Nat} {rs : List Row} {r : Option (List RF)} (hA : OkTl A) (hB : OkTl B) (eA : tlF A = F) (eB : tlF B = S) (ew : F.length * S.length = wd) (hw : wd ≤ 1000) (h0 : InsTo wd 0 [] (unF wd 0) rs r) (h : PrRun F S wd R n 1 rs (unF wd 0) r) : PrTo A B R := by
  subst eA eB ew
  exact ⟨hA, hB, hw, n, rs, r, h0, h⟩
theorem tl_fo (u : RF) : tlF [-u, 1] = [u] := by
  show [-(1 : RF)⁻¹ * -u] = [u]
  rw [RF.one_inv]
  congr 1
  grind
theorem okTl_fo {u : RF} {a : Nat} [HC u a] (ha : a ≤ 10) : OkTl [-u, 1] := okTl2 rf10 (by omega) ha
theorem ne_n0 {a : RF} (h : a ≠ 0) : ¬ a = 0 := h
/-! ### no slot -/
theorem pr0a {c u : RF} {a : Nat} [HC c 2] [HC u a] (h0 : c ≠ 0) (ha : a ≤ 10) : PrTo [c] [-u, 1] [1] :=
  prTo_of (wd := 0) (n := 0) (okTl1 h0) (okTl_fo ha) rfl (tl_fo u) rfl (lek rfl) ins0 rfl
theorem pr0b {c u : RF} {a : Nat} [HC c 2] [HC u a] (h0 : c ≠ 0) (ha : a ≤ 10) : PrTo [-u, 1] [c] [1] :=
  prTo_of (wd := 0) (n := 0) (okTl_fo ha) (okTl1 h0) (tl_fo u) rfl rfl (lek rfl) ins0 rfl
/-! ### one turn of change_of_product -/
theorem in1_one (c : RF) (f : Nat → Nat) (k : Nat) (x : RF) (L : List RF) : in1 c f [(k, x)] L 1 = ad1 L (f k) (c * x) := rfl
theorem in1_two (c : RF) (f : Nat → Nat) (k l : Nat) (x y : RF) (L : List RF) : in1 c f [(k, x), (l, y)] L 2 = ad1 (ad1 L (f k) (c * x)) (f l) (c * y) := rfl
theorem ad1_0 (a x : RF) : ad1 [a] 0 x = [a + x] := rfl
theorem ad1_1 (a b x : RF) : ad1 [a, b] 0 x = [a + x, b] := rfl
theorem ad1_2 (a b x : RF) : ad1 [a, b] 1 x = [a, b + x] := rfl
theorem raF_1 (α : RF) : raF 0 [α] = [(0, α)] := by
  unfold raF
  rw [if_neg (by simp)]
  rfl
theorem raF_2 (α β : RF) : raF 0 [α, β] = [(1, 1)] := by
  unfold raF
  rw [if_pos (by simp)]
theorem raF_3 (α β : RF) : raF 1 [α, β] = [(0, α), (1, β)] := by
  unfold raF
  rw [if_neg (by simp)]
  rfl
theorem stJ_pos {v F S : List RF} {i : Nat} {L : List RF} {j : Nat} (h : v.getD (i * S.length + j) 0 = 0) : stJ v F S i L j = L := by
  unfold stJ
  rw [if_pos h]
theorem stJ_neg {v F S : List RF} {i : Nat} {L : List RF} {j : Nat} {c : RF} {P Q : List (Nat × RF)} (hc : v.getD (i * S.length + j) 0 = c) (h : c ≠ 0) (eP : raF i F = P) (eQ : raF j S = Q) : stJ v F S i L j = in1 c (fun k => i * S.length + k) Q (in1 c (fun k => k * S.length + j) P L P.length) Q.length := by
  subst hc eP eQ
  unfold stJ
  rw [if_neg h]
/-! ### one slot -/
theorem ch1 (α u : RF) : chF [1] [α] [u] = [(1 : RF).d + 1 * α + 1 * u] := by
  show stJ [1] [α] [u] 0 [(1 : RF).d] 0 = _
  rw [stJ_neg (c := 1) rfl rf10 (raF_1 α) (raF_1 u)]
  show in1 1 (fun k => 0 * 1 + k) [(0, u)] (in1 1 (fun k => k * 1 + 0) [(0, α)] [(1 : RF).d] 1) 1 = _
  rw [in1_one, in1_one]
  show ad1 (ad1 [(1 : RF).d] 0 (1 * α)) 0 (1 * u) = _
  rw [ad1_0, ad1_0]
theorem okCh1 {α u : RF} {a b : Nat} [HC α a] [HC u b] (ha : a ≤ 10) (hb : b ≤ 10) : OkCh [1] [α] [u] :=
  ⟨rfl, lek rfl, lek rfl, all1 (co (f := (1 : RF))), all1 (all1 fun _ => ⟨all1 ⟨lek rfl, co2 (f := (1 : RF)) (g := α) (by omega), can (f := (1 : RF).d) (g := 1 * α) (by omega)⟩, all1 ⟨lek rfl, co2 (f := (1 : RF)) (g := u) (by omega), can (f := (1 : RF).d + 1 * α) (g := 1 * u) (by omega)⟩⟩)⟩
theorem pr1 {A B : List RF} {α u : RF} {a b : Nat} [HC α a] [HC u b] (ha : a ≤ 10) (hb : b ≤ 10) (hA : OkTl A) (hB : OkTl B) (eA : tlF A = [α]) (eB : tlF B = [u]) : PrTo A B [-((1 : RF).d + 1 * α + 1 * u), 1] :=
  prTo_of (wd := 1) (n := 1) hA hB eA eB rfl (lek rfl) ins1a ⟨rfl, okCh1 ha hb, _, _, by rw [unF10, ch1]; exact ins1b (by omega), rfl⟩
/-! ### two slots, (order 2, order 1) -/
theorem ch2a (α β u : RF) : chF [1, 0] [α, β] [u] = [u, 1] := by
  show stJ [1, 0] [α, β] [u] 1 (stJ [1, 0] [α, β] [u] 0 [(1 : RF).d, (0 : RF).d] 0) 0 = _
  rw [stJ_pos (i := 1) rfl, stJ_neg (c := 1) rfl rf10 (raF_2 α β) (raF_1 u)]
  show in1 1 (fun k => 0 * 1 + k) [(0, u)] (in1 1 (fun k => k * 1 + 0) [(1, 1)] [(1 : RF).d, (0 : RF).d] 1) 1 = _
  rw [in1_one, in1_one]
  show ad1 (ad1 [(1 : RF).d, (0 : RF).d] 1 (1 * 1)) 0 (1 * u) = _
  rw [ad1_2, ad1_1, d_one, d_zero, show (0 : RF) + 1 * u = u by grind, show (0 : RF) + 1 * 1 = 1 by grind]
theorem okCh2a {α β u : RF} {a b c : Nat} [HC α a] [HC β b] [HC u c] (hc : c ≤ 10) : OkCh [1, 0] [α, β] [u] :=
  ⟨rfl, lek rfl, lek rfl, all2 (co (f := (1 : RF))) (co (f := (0 : RF))), all2 (all1 fun _ => ⟨all1 ⟨lek rfl, co2 (f := (1 : RF)) (g := 1), can (f := (0 : RF).d) (g := 1 * 1)⟩, all1 ⟨lek rfl, co2 (f := (1 : RF)) (g := u) (by omega), can (f := (1 : RF).d) (g := 1 * u) (by omega)⟩⟩) (all1 fun h => absurd rfl h)⟩
theorem st2b0 (α β u : RF) : stJ [u, 1] [α, β] [u] 0 [u.d, (1 : RF).d] 0 = if u = 0 then [u.d, (1 : RF).d] else [u.d + u * u, (1 : RF).d + u * 1] := by
  by_cases h : u = 0
  · rw [if_pos h, stJ_pos (show ([u, 1] : List RF).getD (0 * ([u] : List RF).length + 0) 0 = 0 from h)]
  · rw [if_neg h, stJ_neg (c := u) rfl h (raF_2 α β) (raF_1 u)]
    show in1 u (fun k => 0 * 1 + k) [(0, u)] (in1 u (fun k => k * 1 + 0) [(1, 1)] [u.d, (1 : RF).d] 1) 1 = _
    rw [in1_one, in1_one]
    show ad1 (ad1 [u.d, (1 : RF).d] 1 (u * 1)) 0 (u * u) = _
    rw [ad1_2, ad1_1]
theorem st2b1 (α β u x y : RF) : stJ [u, 1] [α, β] [u] 1 [x, y] 0 = [x + 1 * α, y + 1 * β + 1 * u] := by
  rw [stJ_neg (c := 1) rfl rf10 (raF_3 α β) (raF_1 u)]
  show in1 1 (fun k => 1 * 1 + k) [(0, u)] (in1 1 (fun k => k * 1 + 0) [(0, α), (1, β)] [x, y] 2) 1 = _
  rw [in1_two, in1_one]
  show ad1 (ad1 (ad1 [x, y] 0 (1 * α)) 1 (1 * β)) 1 (1 * u) = _
  rw [ad1_1, ad1_2, ad1_2]
theorem ch2b (α β u : RF) : chF [u, 1] [α, β] [u] = [u.d + u * u + α, β + u + u] := by
  show stJ [u, 1] [α, β] [u] 1 (stJ [u, 1] [α, β] [u] 0 [u.d, (1 : RF).d] 0) 0 = _
  rw [st2b0]
  by_cases h : u = 0
  · rw [if_pos h, st2b1, d_one, h, d_zero]
    rw [show (0 : RF) + 1 * α = 0 + 0 * 0 + α by grind, show (0 : RF) + 1 * β + 1 * 0 = β + 0 + 0 by grind]
  · rw [if_neg h, st2b1, d_one, show u.d + u * u + 1 * α = u.d + u * u + α by grind, show (0 : RF) + u * 1 + 1 * β + 1 * u = β + u + u by grind]
theorem okJ2b {α β u x y : RF} {a b c d e : Nat} [HC α a] [HC β b] [HC u c] [HC x d] [HC y e] (ha : a ≤ 10) (hb : b ≤ 10) (hc : c ≤ 10) (hd : d ≤ 15) (he : e ≤ 15) : OkJ [u, 1] [α, β] [u] 1 [x, y] 0 :=
  fun _ => ⟨all2 ⟨lek rfl, co2 (f := (1 : RF)) (g := α) (by omega), can (f := x) (g := 1 * α) (by omega)⟩ ⟨lek rfl, co2 (f := (1 : RF)) (g := β) (by omega), can (f := y) (g := 1 * β) (by omega)⟩, all1 ⟨lek rfl, co2 (f := (1 : RF)) (g := u) (by omega), can (f := y + 1 * β) (g := 1 * u) (by omega)⟩⟩
theorem okCh2b {α β u : RF} {a b c : Nat} [HC α a] [HC β b] [HC u c] (ha : a ≤ 10) (hb : b ≤ 10) (hc : c ≤ 3) : OkCh [u, 1] [α, β] [u] :=
  ⟨rfl, lek rfl, lek rfl, all2 (co (f := u) (by omega)) (co (f := (1 : RF))), all2 (all1 fun _ => ⟨all1 ⟨lek rfl, co2 (f := u) (g := 1) (by omega), can (f := (1 : RF).d) (g := u * 1) (by omega)⟩, all1 ⟨lek rfl, co2 (f := u) (g := u) (by omega), can (f := u.d) (g := u * u) (by omega)⟩⟩) (all1 (by
    show OkJ [u, 1] [α, β] [u] 1 (stJ [u, 1] [α, β] [u] 0 [u.d, (1 : RF).d] 0) 0
    rw [st2b0]
    split
    · exact okJ2b (x := u.d) (y := (1 : RF).d) ha hb (by omega) (by omega) (by omega)
    · exact okJ2b (x := u.d + u * u) (y := (1 : RF).d + u * 1) ha hb (by omega) (by omega) (by omega)))⟩
theorem unF20 : unF 2 0 = [1, 0] := rfl
theorem pr2a {A B : List RF} {α β u : RF} {a b c : Nat} [HC α a] [HC β b] [HC u c] (ha : a ≤ 5) (hb : b ≤ 5) (hc : c ≤ 3) (hA : OkTl A) (hB : OkTl B) (eA : tlF A = [α, β]) (eB : tlF B = [u]) : PrTo A B [-(u.d + u * u + α) + (β + u + u) * u, -(β + u + u), 1] :=
  prTo_of (wd := 2) (n := 2) hA hB eA eB rfl (lek rfl) ins2a ⟨rfl, okCh2a (by omega), _, _, by rw [unF20, ch2a]; exact ins2b (by omega), rfl, by rw [unF20, ch2a]; exact okCh2b (by omega) (by omega) hc, _, _, by rw [unF20, ch2a, ch2b]; exact ins2c (by omega) (by omega) (by omega), rfl⟩
/-! ### two slots, (order 1, order 2) -/
theorem ch3a (α β u : RF) : chF [1, 0] [u] [α, β] = [u, 1] := by
  show stJ [1, 0] [u] [α, β] 0 (stJ [1, 0] [u] [α, β] 0 [(1 : RF).d, (0 : RF).d] 0) 1 = _
  rw [stJ_pos (j := 1) rfl, stJ_neg (c := 1) rfl rf10 (raF_1 u) (raF_2 α β)]
  show in1 1 (fun k => 0 * 2 + k) [(1, 1)] (in1 1 (fun k => k * 2 + 0) [(0, u)] [(1 : RF).d, (0 : RF).d] 1) 1 = _
  rw [in1_one, in1_one]
  show ad1 (ad1 [(1 : RF).d, (0 : RF).d] 0 (1 * u)) 1 (1 * 1) = _
  rw [ad1_1, ad1_2, d_one, d_zero, show (0 : RF) + 1 * u = u by grind, show (0 : RF) + 1 * 1 = 1 by grind]
theorem okCh3a {α β u : RF} {a b c : Nat} [HC α a] [HC β b] [HC u c] (hc : c ≤ 10) : OkCh [1, 0] [u] [α, β] :=
  ⟨rfl, lek rfl, lek rfl, all2 (co (f := (1 : RF))) (co (f := (0 : RF))), all1 (all2 (fun _ => ⟨all1 ⟨lek rfl, co2 (f := (1 : RF)) (g := u) (by omega), can (f := (1 : RF).d) (g := 1 * u) (by omega)⟩, all1 ⟨lek rfl, co2 (f := (1 : RF)) (g := 1), can (f := (0 : RF).d) (g := 1 * 1)⟩⟩) (fun h => absurd rfl h))⟩
theorem st3b0 (α β u : RF) : stJ [u, 1] [u] [α, β] 0 [u.d, (1 : RF).d] 0 = if u = 0 then [u.d, (1 : RF).d] else [u.d + u * u, (1 : RF).d + u * 1] := by
  by_cases h : u = 0
  · rw [if_pos h, stJ_pos (show ([u, 1] : List RF).getD (0 * ([α, β] : List RF).length + 0) 0 = 0 from h)]
  · rw [if_neg h, stJ_neg (c := u) rfl h (raF_1 u) (raF_2 α β)]
    show in1 u (fun k => 0 * 2 + k) [(1, 1)] (in1 u (fun k => k * 2 + 0) [(0, u)] [u.d, (1 : RF).d] 1) 1 = _
    rw [in1_one, in1_one]
    show ad1 (ad1 [u.d, (1 : RF).d] 0 (u * u)) 1 (u * 1) = _
    rw [ad1_1, ad1_2]
theorem st3b1 (α β u x y : RF) : stJ [u, 1] [u] [α, β] 0 [x, y] 1 = [x + 1 * α, y + 1 * u + 1 * β] := by
  rw [stJ_neg (c := 1) rfl rf10 (raF_1 u) (raF_3 α β)]
  show in1 1 (fun k => 0 * 2 + k) [(0, α), (1, β)] (in1 1 (fun k => k * 2 + 1) [(0, u)] [x, y] 1) 2 = _
  rw [in1_one, in1_two]
  show ad1 (ad1 (ad1 [x, y] 1 (1 * u)) 0 (1 * α)) 1 (1 * β) = _
  rw [ad1_2, ad1_1, ad1_2]
theorem ch3b (α β u : RF) : chF [u, 1] [u] [α, β] = [u.d + u * u + α, β + u + u] := by
  show stJ [u, 1] [u] [α, β] 0 (stJ [u, 1] [u] [α, β] 0 [u.d, (1 : RF).d] 0) 1 = _
  rw [st3b0]
  by_cases h : u = 0
  · rw [if_pos h, st3b1, d_one, h, d_zero]
    rw [show (0 : RF) + 1 * α = 0 + 0 * 0 + α by grind, show (0 : RF) + 1 * 0 + 1 * β = β + 0 + 0 by grind]
  · rw [if_neg h, st3b1, d_one, show u.d + u * u + 1 * α = u.d + u * u + α by grind, show (0 : RF) + u * 1 + 1 * u + 1 * β = β + u + u by grind]
theorem okJ3b {α β u x y : RF} {a b c d e : Nat} [HC α a] [HC β b] [HC u c] [HC x d] [HC y e] (ha : a ≤ 10) (hb : b ≤ 10) (hc : c ≤ 10) (hd : d ≤ 15) (he : e ≤ 15) : OkJ [u, 1] [u] [α, β] 0 [x, y] 1 :=
  fun _ => ⟨all1 ⟨lek rfl, co2 (f := (1 : RF)) (g := u) (by omega), can (f := y) (g := 1 * u) (by omega)⟩, all2 ⟨lek rfl, co2 (f := (1 : RF)) (g := α) (by omega), can (f := x) (g := 1 * α) (by omega)⟩ ⟨lek rfl, co2 (f := (1 : RF)) (g := β) (by omega), can (f := y + 1 * u) (g := 1 * β) (by omega)⟩⟩
theorem okCh3b {α β u : RF} {a b c : Nat} [HC α a] [HC β b] [HC u c] (ha : a ≤ 10) (hb : b ≤ 10) (hc : c ≤ 3) : OkCh [u, 1] [u] [α, β] :=
  ⟨rfl, lek rfl, lek rfl, all2 (co (f := u) (by omega)) (co (f := (1 : RF))), all1 (all2 (fun _ => ⟨all1 ⟨lek rfl, co2 (f := u) (g := u) (by omega), can (f := u.d) (g := u * u) (by omega)⟩, all1 ⟨lek rfl, co2 (f := u) (g := 1) (by omega), can (f := (1 : RF).d) (g := u * 1) (by omega)⟩⟩) (by
    show OkJ [u, 1] [u] [α, β] 0 (stJ [u, 1] [u] [α, β] 0 [u.d, (1 : RF).d] 0) 1
    rw [st3b0]
    split
    · exact okJ3b (x := u.d) (y := (1 : RF).d) ha hb (by omega) (by omega) (by omega)
    · exact okJ3b (x := u.d + u * u) (y := (1 : RF).d + u * 1) ha hb (by omega) (by omega) (by omega)))⟩
theorem pr2b {A B : List RF} {α β u : RF} {a b c : Nat} [HC α a] [HC β b] [HC u c] (ha : a ≤ 5) (hb : b ≤ 5) (hc : c ≤ 3) (hA : OkTl A) (hB : OkTl B) (eA : tlF A = [u]) (eB : tlF B = [α, β]) : PrTo A B [-(u.d + u * u + α) + (β + u + u) * u, -(β + u + u), 1] :=
  prTo_of (wd := 2) (n := 2) hA hB eA eB rfl (lek rfl) ins2a ⟨rfl, okCh3a (by omega), _, _, by rw [unF20, ch3a]; exact ins2b (by omega), rfl, by rw [unF20, ch3a]; exact okCh3b (by omega) (by omega) hc, _, _, by rw [unF20, ch3a, ch3b]; exact ins2c (by omega) (by omega) (by omega), rfl⟩
end K31
set_option Elab.async false
set_option linter.all false
set_option maxRecDepth 100000
set_option maxHeartbeats 4000000
/-! N4: rows of functions, short ones; moved. -/
namespace K31
theorem adF_1 (x : RF) : adF [x] = [x.d, x] := rfl
theorem adF_2 (x y : RF) : adF [x, y] = [x.d, y.d + x, y] := rfl
theorem adF_3 (x y z : RF) : adF [x, y, z] = [x.d, y.d + x, z.d + y, z] := rfl
theorem scF_1 (f x : RF) : scF f [x] = [f * x] := rfl
theorem scF_2 (f x y : RF) : scF f [x, y] = [f * x, f * y] := rfl
theorem scF_3 (f x y z : RF) : scF f [x, y, z] = [f * x, f * y, f * z] := rfl
theorem addF_01 (a : RF) : addF [] [a] = [a] := rfl
theorem addF_02 (a b : RF) : addF [] [a, b] = [a, b] := rfl
theorem addF_03 (a b c : RF) : addF [] [a, b, c] = [a, b, c] := rfl
theorem addF_11 (a x : RF) : addF [a] [x] = [a + x] := rfl
theorem addF_12 (a x y : RF) : addF [a] [x, y] = [x + a, y] := rfl
theorem addF_21 (a b x : RF) : addF [a, b] [x] = [a + x, b] := rfl
theorem addF_22 (a b x y : RF) : addF [a, b] [x, y] = [a + x, b + y] := rfl
theorem addF_23 (a b x y z : RF) : addF [a, b] [x, y, z] = [x + a, y + b, z] := rfl
theorem addF_32 (a b c x y : RF) : addF [a, b, c] [x, y] = [a + x, b + y, c] := rfl
theorem addF_33 (a b c x y z : RF) : addF [a, b, c] [x, y, z] = [a + x, b + y, c + z] := rfl
theorem addF_43 (a b c e x y z : RF) : addF [a, b, c, e] [x, y, z] = [a + x, b + y, c + z, e] := rfl
theorem ngF_1 (x : RF) : ngF [x] = [-x] := rfl
theorem ngF_2 (x y : RF) : ngF [x, y] = [-x, -y] := rfl
theorem ngF_3 (x y z : RF) : ngF [x, y, z] = [-x, -y, -z] := rfl
/-! ### premises by costs -/
theorem cc {f g : RF} {a b : Nat} [HC f a] [HC g b] (h : a + b ≤ 50 := by decide) : CanAdd f g ∧ CanAdd g f := ⟨can (f := f) (g := g) h, can (f := g) (g := f) (by omega)⟩
theorem okAddL {A B : List RF} (h : ∀ k, k < A.length → CanAdd (A.getD k 0) (B.getD k 0) ∧ CanAdd (B.getD k 0) (A.getD k 0)) : OkAdd A B := fun k h1 _ => h k h1
theorem okAddR {A B : List RF} (h : ∀ k, k < B.length → CanAdd (A.getD k 0) (B.getD k 0) ∧ CanAdd (B.getD k 0) (A.getD k 0)) : OkAdd A B := fun k _ h2 => h k h2
theorem okAdd0 {B : List RF} : OkAdd [] B := fun k h1 _ => absurd h1 (Nat.not_lt_zero _)
theorem okAd1 {x : RF} {a : Nat} [HC x a] (ha : a ≤ 25) : OkAd [x] := ⟨all1 (co (f := x) (by omega)), fun k hk => absurd hk (by simp)⟩
theorem okAd2 {x y : RF} {a b : Nat} [HC x a] [HC y b] (ha : a ≤ 25) (hb : b ≤ 25) (hab : 2 * b + 2 + a ≤ 50) : OkAd [x, y] := ⟨all2 (co (f := x) (by omega)) (co (f := y) (by omega)), fun k hk => all1 (p := fun k => CanAdd (([x, y] : List RF).getD (k + 1) 0).d (([x, y] : List RF).getD k 0)) (can (f := y.d) (g := x) hab) k (by simp at hk; omega)⟩
theorem okAd3 {x y z : RF} {a b c : Nat} [HC x a] [HC y b] [HC z c] (ha : a ≤ 25) (hb : b ≤ 25) (hc : c ≤ 25) (hab : 2 * b + 2 + a ≤ 50) (hbc : 2 * c + 2 + b ≤ 50) : OkAd [x, y, z] := ⟨all3 (co (f := x) (by omega)) (co (f := y) (by omega)) (co (f := z) (by omega)), fun k hk => all2 (p := fun k => CanAdd (([x, y, z] : List RF).getD (k + 1) 0).d (([x, y, z] : List RF).getD k 0)) (can (f := y.d) (g := x) hab) (can (f := z.d) (g := y) hbc) k (by simp at hk; omega)⟩
theorem okSc1 {f x : RF} {a b : Nat} [HC f a] [HC x b] (h : a + b ≤ 50) : OkSc f [x] := all1 (co2 (f := f) (g := x) h)
theorem okSc2 {f x y : RF} {a b c : Nat} [HC f a] [HC x b] [HC y c] (h : a + b ≤ 50) (h2 : a + c ≤ 50) : OkSc f [x, y] := all2 (co2 (f := f) (g := x) h) (co2 (f := f) (g := y) h2)
theorem okSc3 {f x y z : RF} {a b c d : Nat} [HC f a] [HC x b] [HC y c] [HC z d] (h : a + b ≤ 50) (h2 : a + c ≤ 50) (h3 : a + d ≤ 50) : OkSc f [x, y, z] := all3 (co2 (f := f) (g := x) h) (co2 (f := f) (g := y) h2) (co2 (f := f) (g := z) h3)
/-! ### monic -/
theorem inv_lead {c : RF} (h : c ≠ 0) : c⁻¹ * c = 1 := by grind
theorem inv_ne {c : RF} (h : c ≠ 0) : c⁻¹ ≠ 0 := fun z => by
  have := inv_lead h
  rw [z] at this
  exact rf10 (by grind)
theorem monL1 {c : RF} (h : c ≠ 0) : monF [c] = [1] := by
  unfold monF
  rw [lead1, scF_1, inv_lead h, trimF_id (by rw [lead1]; exact rf10)]
theorem monL2 {x c : RF} (h : c ≠ 0) : monF [x, c] = [c⁻¹ * x, 1] := by
  unfold monF
  rw [lead2, scF_2, inv_lead h, trimF_id (by rw [lead2]; exact rf10)]
theorem monL3 {x y c : RF} (h : c ≠ 0) : monF [x, y, c] = [c⁻¹ * x, c⁻¹ * y, 1] := by
  unfold monF
  rw [lead3, scF_3, inv_lead h, trimF_id (by rw [lead3]; exact rf10)]
theorem okMonL1 {c : RF} {a : Nat} [HC c a] (h : c ≠ 0) (ha : a ≤ 25) : OkMon [c] := ⟨by simp, h, co (f := c) (by omega), okSc1 (f := c⁻¹) (x := c) (by omega), lek rfl⟩
theorem okMonL2 {x c : RF} {a b : Nat} [HC x b] [HC c a] (h : c ≠ 0) (ha : a ≤ 25) (hb : a + b ≤ 50) : OkMon [x, c] := ⟨by simp, h, co (f := c) (by omega), okSc2 (f := c⁻¹) (x := x) (y := c) (by omega) (by omega), lek rfl⟩
theorem okMonL3 {x y c : RF} {a b d : Nat} [HC x b] [HC y d] [HC c a] (h : c ≠ 0) (ha : a ≤ 25) (hb : a + b ≤ 50) (hd : a + d ≤ 50) : OkMon [x, y, c] := ⟨by simp, h, co (f := c) (by omega), okSc3 (f := c⁻¹) (x := x) (y := y) (z := c) (by omega) (by omega) (by omega), lek rfl⟩
/-- sums of short lists -/
abbrev CA (a x : RF) : Prop := CanAdd a x ∧ CanAdd x a
theorem oa11 {a x : RF} (h : CA a x) : OkAdd [a] [x] := okAddL (all1 h)
theorem oa12 {a x y : RF} (h : CA a x) : OkAdd [a] [x, y] := okAddL (all1 h)
theorem oa13 {a x y z : RF} (h : CA a x) : OkAdd [a] [x, y, z] := okAddL (all1 h)
theorem oa21 {a b x : RF} (h : CA a x) : OkAdd [a, b] [x] := okAddR (all1 h)
theorem oa22 {a b x y : RF} (h : CA a x) (h2 : CA b y) : OkAdd [a, b] [x, y] := okAddR (all2 h h2)
theorem oa23 {a b x y z : RF} (h : CA a x) (h2 : CA b y) : OkAdd [a, b] [x, y, z] := okAddL (all2 h h2)
theorem oa31 {a b c x : RF} (h : CA a x) : OkAdd [a, b, c] [x] := okAddR (all1 h)
theorem oa32 {a b c x y : RF} (h : CA a x) (h2 : CA b y) : OkAdd [a, b, c] [x, y] := okAddR (all2 h h2)
theorem oa33 {a b c x y z : RF} (h : CA a x) (h2 : CA b y) (h3 : CA c z) : OkAdd [a, b, c] [x, y, z] := okAddR (all3 h h2 h3)
theorem oa43 {a b c e x y z : RF} (h : CA a x) (h2 : CA b y) (h3 : CA c z) : OkAdd [a, b, c, e] [x, y, z] := okAddR (all3 h h2 h3)
/-! ### moved -/
theorem mv1 (w p : RF) : mvS w ([], [1]) p = ([p], [w, 1]) := by
  show (addF [] (scF p [1]), addF (adF [1]) (scF w [1])) = _
  rw [scF_1, scF_1, adF_1, addF_01, addF_21, d_one, show p * 1 = p by grind, show (0 : RF) + w * 1 = w by grind]
theorem mv2 (w p q : RF) : mvS w ([p], [w, 1]) q = ([q * w + p, q], [w.d + w * w, w + w, 1]) := by
  show (addF [p] (scF q [w, 1]), addF (adF [w, 1]) (scF w [w, 1])) = _
  rw [scF_2, scF_2, adF_2, addF_12, addF_32, d_one, show q * 1 = q by grind, show (0 : RF) + w + w * 1 = w + w by grind]
theorem mv3 (w x y c : RF) : (mvS w ([x, y], [w.d + w * w, w + w, 1]) c).1 = [c * (w.d + w * w) + x, c * (w + w) + y, c] := by
  show addF [x, y] (scF c [w.d + w * w, w + w, 1]) = _
  rw [scF_3, addF_23, show c * 1 = c by grind]
theorem okMv0 {w c : RF} {a b : Nat} [HC w a] [HC c b] (ha : a ≤ 3) (hb : b ≤ 3) : OkMvS w ([], [1]) c :=
  ⟨okSc1 (f := c) (x := 1) (by omega), okAdd0, okAd1 (x := 1) (by omega), okSc1 (f := w) (x := 1) (by omega), (by
    rw [adF_1, scF_1]
    exact oa21 (cc (f := (1 : RF).d) (g := w * 1) (by omega))), lek rfl, lek rfl⟩
theorem okMv1 {w p c : RF} {a b d : Nat} [HC w a] [HC c b] [HC p d] (ha : a ≤ 3) (hb : b ≤ 3) (hd : d ≤ 10) : OkMvS w ([p], [w, 1]) c :=
  ⟨okSc2 (f := c) (x := w) (y := 1) (by omega) (by omega), (by
    show OkAdd [p] (scF c [w, 1])
    rw [scF_2]
    exact oa12 (cc (f := p) (g := c * w) (by omega))), okAd2 (x := w) (y := 1) (by omega) (by omega) (by omega), okSc2 (f := w) (x := w) (y := 1) (by omega) (by omega), (by
    rw [adF_2, scF_2]
    exact oa32 (cc (f := w.d) (g := w * w) (by omega)) (cc (f := (1 : RF).d + w) (g := w * 1) (by omega))), lek rfl, lek rfl⟩
theorem okMv2 {w x y c : RF} {a b d e : Nat} [HC w a] [HC c b] [HC x d] [HC y e] (ha : a ≤ 2) (hb : b ≤ 3) (hd : d ≤ 10) (he : e ≤ 10) : OkMvS w ([x, y], [w.d + w * w, w + w, 1]) c :=
  ⟨okSc3 (f := c) (x := w.d + w * w) (y := w + w) (z := 1) (by omega) (by omega) (by omega), (by
    show OkAdd [x, y] (scF c [w.d + w * w, w + w, 1])
    rw [scF_3]
    exact oa23 (cc (f := x) (g := c * (w.d + w * w)) (by omega)) (cc (f := y) (g := c * (w + w)) (by omega))), okAd3 (x := w.d + w * w) (y := w + w) (z := 1) (by omega) (by omega) (by omega) (by omega) (by omega), okSc3 (f := w) (x := w.d + w * w) (y := w + w) (z := 1) (by omega) (by omega) (by omega), (by
    rw [adF_3, scF_3]
    exact oa43 (cc (f := (w.d + w * w).d) (g := w * (w.d + w * w)) (by omega)) (cc (f := (w + w).d + (w.d + w * w)) (g := w * (w + w)) (by omega)) (cc (f := (1 : RF).d + (w + w)) (g := w * 1) (by omega))), lek rfl, lek rfl⟩
/-- pick 0 -/
structure P0 (A : List RF) (u : RF) (R : List RF) : Prop where
  a : PrTo A [-u, 1] R
  b : PrTo [-u, 1] A R
  mv : OkMv (-u) A
  l : A.length ≤ 1000
  mo : OkMon (mvF (-u) A)
  e : monF (mvF (-u) A) = R
theorem pick0 {A : List RF} {u : RF} (h : opOk A) (hu : Cost 2 u) : ∃ R, P0 A u R := by
  have iu : HC u 2 := .of hu
  rcases h.cases with ⟨c, rfl, i1, h0⟩ | ⟨p, c, rfl, i1, i2, h0⟩ | ⟨p, q, c, rfl, i1, i2, i3, h0⟩
  · have em : mvF (-u) [c] = [c] := by
      show trimF (mvS (-u) ([], [1]) c).1 = _
      rw [mv1, trimF_id (by rw [lead1]; exact h0)]
    exact ⟨[1], pr0a h0 (by omega), pr0b h0 (by omega), all1 (okMv0 (c := c) (by omega) (by omega)), lek rfl, by rw [em]; exact okMonL1 h0 (by omega), by rw [em, monL1 h0]⟩
  · have em : mvF (-u) [p, c] = [c * -u + p, c] := by
      show trimF (mvS (-u) (mvS (-u) ([], [1]) p) c).1 = _
      rw [mv1, mv2, trimF_id (by rw [lead2]; exact h0)]
    have e1 : -((1 : RF).d + 1 * (-c⁻¹ * p) + 1 * u) = c⁻¹ * (c * -u + p) := by rw [d_one]; grind
    have e2 : -((1 : RF).d + 1 * u + 1 * (-c⁻¹ * p)) = c⁻¹ * (c * -u + p) := by rw [d_one]; grind
    refine ⟨[c⁻¹ * (c * -u + p), 1], ?_, ?_, all2 (okMv0 (c := p) (by omega) (by omega)) ?_, lek rfl, by rw [em]; exact okMonL2 (x := c * -u + p) h0 (by omega) (by omega), by rw [em, monL2 h0]⟩
    · rw [← e1]
      exact pr1 (α := -c⁻¹ * p) (by omega) (by omega) (okTl2 h0 (by omega) (by omega)) (okTl_fo (by omega)) rfl (tl_fo u)
    · rw [← e2]
      exact pr1 (u := -c⁻¹ * p) (by omega) (by omega) (okTl_fo (by omega)) (okTl2 h0 (by omega) (by omega)) (tl_fo u) rfl
    · show OkMvS (-u) (mvS (-u) ([], [1]) p) c
      rw [mv1]
      exact okMv1 (by omega) (by omega) (by omega)
  · have em : mvF (-u) [p, q, c] = [c * ((-u).d + -u * -u) + (q * -u + p), c * (-u + -u) + q, c] := by
      show trimF (mvS (-u) (mvS (-u) (mvS (-u) ([], [1]) p) q) c).1 = _
      rw [mv1, mv2, mv3, trimF_id (by rw [lead3]; exact h0)]
    have e1 : -(u.d + u * u + -c⁻¹ * p) + (-c⁻¹ * q + u + u) * u = c⁻¹ * (c * ((-u).d + -u * -u) + (q * -u + p)) := by rw [d_neg]; grind
    have e2 : -(-c⁻¹ * q + u + u) = c⁻¹ * (c * (-u + -u) + q) := by grind
    refine ⟨[c⁻¹ * (c * ((-u).d + -u * -u) + (q * -u + p)), c⁻¹ * (c * (-u + -u) + q), 1], ?_, ?_, all3 (okMv0 (c := p) (by omega) (by omega)) ?_ ?_, lek rfl, by rw [em]; exact okMonL3 (x := c * ((-u).d + -u * -u) + (q * -u + p)) (y := c * (-u + -u) + q) h0 (by omega) (by omega) (by omega), by rw [em, monL3 h0]⟩
    · rw [← e1, ← e2]
      exact pr2a (α := -c⁻¹ * p) (β := -c⁻¹ * q) (by omega) (by omega) (by omega) (okTl3 h0) (okTl_fo (by omega)) rfl (tl_fo u)
    · rw [← e1, ← e2]
      exact pr2b (α := -c⁻¹ * p) (β := -c⁻¹ * q) (by omega) (by omega) (by omega) (okTl_fo (by omega)) (okTl3 h0) (tl_fo u) rfl
    · show OkMvS (-u) (mvS (-u) ([], [1]) p) q
      rw [mv1]
      exact okMv1 (by omega) (by omega) (by omega)
    · show OkMvS (-u) (mvS (-u) (mvS (-u) ([], [1]) p) q) c
      rw [mv1, mv2]
      exact okMv2 (x := q * -u + p) (y := q) (by omega) (by omega) (by omega) (by omega)
end K31
set_option Elab.async false
set_option linter.all false
set_option maxRecDepth 100000
set_option maxHeartbeats 4000000
/-! N5: division by a function. -/
namespace K31
theorem trim_nil : trimF [] = [] := by rw [trimF]
theorem trim_cons (a : RF) (l : List RF) : trimF (a :: l) = if trimF l = [] ∧ a = 0 then [] else a :: trimF l := by rw [trimF]
theorem trim_z : ∀ l : List RF, trimF (l ++ [0]) = trimF l
  | [] => by
    show trimF [0] = trimF []
    rw [trim_cons, if_pos ⟨trim_nil, rfl⟩, trim_nil]
  | a :: l => by
    show trimF (a :: (l ++ [0])) = trimF (a :: l)
    rw [trim_cons, trim_cons, trim_z l]
theorem trim_z1 (x : RF) : trimF [x, 0] = trimF [x] := trim_z [x]
theorem trim_z2 (x y : RF) : trimF [x, y, 0] = trimF [x, y] := trim_z [x, y]
theorem trim_01 : trimF [(0 : RF)] = [] := trim_z []
theorem trim1 {a : RF} (h : a ≠ 0) : trimF [a] = [a] := trimF_id h
theorem trim2 {a b : RF} (h : b ≠ 0) : trimF [a, b] = [a, b] := trimF_id h
theorem trim3 {a b c : RF} (h : c ≠ 0) : trimF [a, b, c] = [a, b, c] := trimF_id h
theorem coAll0 : ∀ k, Co 50 (([] : List RF).getD k 0) := fun k => by
  rw [List.getD_eq_getElem?_getD, List.getElem?_nil]
  exact co (f := (0 : RF))
theorem coAll1 {x : RF} {a : Nat} [HC x a] (h : a ≤ 50) : ∀ k, Co 50 (([x] : List RF).getD k 0)
  | 0 => co (f := x) (by omega)
  | k + 1 => coAll0 k
theorem coAll2 {x y : RF} {a b : Nat} [HC x a] [HC y b] (h : a ≤ 50) (h2 : b ≤ 50) : ∀ k, Co 50 (([x, y] : List RF).getD k 0)
  | 0 => co (f := x) (by omega)
  | k + 1 => coAll1 (x := y) h2 k
theorem coAll3 {x y z : RF} {a b c : Nat} [HC x a] [HC y b] [HC z c] (h : a ≤ 50) (h2 : b ≤ 50) (h3 : c ≤ 50) : ∀ k, Co 50 (([x, y, z] : List RF).getD k 0)
  | 0 => co (f := x) (by omega)
  | k + 1 => coAll2 (x := y) (y := z) h2 h3 k
theorem ca_neg {x : RF} {a : Nat} [HC x a] (h : a ≤ 50) : CA x (-x) := ⟨.inr ⟨rfl, co (f := x) (by omega)⟩, .inr ⟨by grind, co (f := -x) (by omega)⟩⟩
theorem add_neg' (x : RF) : x + -x = 0 := by grind
/-! ### products with one function from the right -/
theorem muS_eq (x y : List RF) (c : RF) : muS (x, y) c = (addF x (scF c y), adF y) := rfl
theorem muF_1 (a : RF) (B : List RF) : muF [a] B = (muS ([], B) a).1 := rfl
theorem muF_2 (a b : RF) (B : List RF) : muF [a, b] B = (muS (muS ([], B) a) b).1 := rfl
theorem muF_3 (a b c : RF) (B : List RF) : muF [a, b, c] B = (muS (muS (muS ([], B) a) b) c).1 := rfl
theorem mu1 (a g : RF) : muF [a] [g] = [a * g] := by
  rw [muF_1, muS_eq, scF_1, addF_01]
theorem mu2 (a b g : RF) : muF [a, b] [g] = [b * g.d + a * g, b * g] := by
  rw [muF_2, muS_eq, muS_eq, scF_1, addF_01, adF_1, scF_2, addF_12]
theorem mu3 (a b c g : RF) : muF [a, b, c] [g] = [c * g.d.d + (b * g.d + a * g), c * (g.d + g.d) + b * g, c * g] := by
  rw [muF_3, muS_eq, muS_eq, muS_eq, scF_1, addF_01, adF_1, scF_2, addF_12, adF_2, scF_3, addF_23]
theorem okMuS0 {a g : RF} {m n : Nat} [HC a m] [HC g n] (h : m + n ≤ 50) (hn : n ≤ 25) : OkMuS ([], [g]) a := ⟨okSc1 (f := a) (x := g) h, okAdd0, okAd1 (x := g) hn, lek rfl, lek rfl⟩
theorem okMuS1 {a b g : RF} {m l n : Nat} [HC a m] [HC b l] [HC g n] (hm : m ≤ 33) (hl : l ≤ 20) (hn : n ≤ 2) (h : m + n + (l + (2 * n + 2)) ≤ 50) : OkMuS (muS ([], [g]) a) b := by
  have e : muS ([], [g]) a = ([a * g], [g.d, g]) := by
    rw [muS_eq, scF_1, addF_01, adF_1]
  rw [e]
  exact ⟨okSc2 (f := b) (x := g.d) (y := g) (by omega) (by omega), by
    show OkAdd [a * g] (scF b [g.d, g])
    rw [scF_2]
    exact oa12 (cc (f := a * g) (g := b * g.d) (by omega)), okAd2 (x := g.d) (y := g) (by omega) (by omega) (by omega), lek rfl, lek rfl⟩
theorem okMuS2 {a b c g : RF} {m l j n : Nat} [HC a m] [HC b l] [HC c j] [HC g n] (hm : m ≤ 5) (hl : l ≤ 5) (hj : j ≤ 5) (hn : n ≤ 2) : OkMuS (muS (muS ([], [g]) a) b) c := by
  have e : muS (muS ([], [g]) a) b = ([b * g.d + a * g, b * g], [g.d.d, g.d + g.d, g]) := by
    rw [muS_eq, muS_eq, scF_1, addF_01, adF_1, scF_2, addF_12, adF_2]
  rw [e]
  exact ⟨okSc3 (f := c) (x := g.d.d) (y := g.d + g.d) (z := g) (by omega) (by omega) (by omega), by
    show OkAdd [b * g.d + a * g, b * g] (scF c [g.d.d, g.d + g.d, g])
    rw [scF_3]
    exact oa23 (cc (f := b * g.d + a * g) (g := c * g.d.d) (by omega)) (cc (f := b * g) (g := c * (g.d + g.d)) (by omega)), okAd3 (x := g.d.d) (y := g.d + g.d) (z := g) (by omega) (by omega) (by omega) (by omega) (by omega), lek rfl, lek rfl⟩
theorem okMu1 {a g : RF} {m n : Nat} [HC a m] [HC g n] (h : m + n ≤ 50) (hn : n ≤ 25) : OkMu [a] [g] := all1 (okMuS0 (a := a) h hn)
theorem okMu2 {a b g : RF} {m l n : Nat} [HC a m] [HC b l] [HC g n] (hm : m ≤ 33) (hl : l ≤ 20) (hn : n ≤ 2) (h : m + n + (l + (2 * n + 2)) ≤ 50) : OkMu [a, b] [g] := all2 (okMuS0 (a := a) (by omega) (by omega)) (okMuS1 (a := a) (b := b) hm hl hn h)
theorem okMu3 {a b c g : RF} {m l j n : Nat} [HC a m] [HC b l] [HC c j] [HC g n] (hm : m ≤ 5) (hl : l ≤ 5) (hj : j ≤ 5) (hn : n ≤ 2) : OkMu [a, b, c] [g] := all3 (okMuS0 (a := a) (by omega) (by omega)) (okMuS1 (a := a) (b := b) (by omega) (by omega) hn (by omega)) (okMuS2 (a := a) (b := b) (c := c) hm hl hj hn)
/-! ### one turn of the division by [f] -/
theorem dvT1 {f x e : RF} (hf : f ≠ 0) (hx : x ≠ 0) (he : e * f = x) : dvT [f] [x] = [e] := by
  have h : x / f = e := by grind
  have h0 : e ≠ 0 := fun z => hx (by rw [← he, z]; grind)
  show trimF [x / f] = [e]
  rw [h, trim1 h0]
theorem dvT2 {f x y e : RF} (hf : f ≠ 0) (hy : y ≠ 0) (he : e * f = y) : dvT [f] [x, y] = [0, e] := by
  have h : y / f = e := by grind
  have h0 : e ≠ 0 := fun z => hy (by rw [← he, z]; grind)
  show trimF [0, y / f] = [0, e]
  rw [h, trim2 h0]
theorem dvT3 {f x y z e : RF} (hf : f ≠ 0) (hz : z ≠ 0) (he : e * f = z) : dvT [f] [x, y, z] = [0, 0, e] := by
  have h : z / f = e := by grind
  have h0 : e ≠ 0 := fun w => hz (by rw [← he, w]; grind)
  show trimF [0, 0, z / f] = [0, 0, e]
  rw [h, trim3 h0]
theorem dv1 {f x e : RF} {Q Q' : List RF} {a b : Nat} [HC f 2] [HC x a] [HC e b] (hf : f ≠ 0) (hx : x ≠ 0) (he : e * f = x) (ha : a ≤ 40) (hb : b ≤ 40) (hQ : OkAdd Q [e]) (hq : Q.length ≤ 900) (eQ : trimF (addF Q [e]) = Q') : DvRun [f] Q' [] 1 Q [x] := by
  have t := dvT1 hf hx he
  have m : trimF (muF [e] [f]) = [x] := by rw [mu1, he, trim1 hx]
  have e1 : dvQ [f] Q [x] = Q' := by
    unfold dvQ
    rw [t, eQ]
  have e2 : dvR [f] [x] = [] := by
    unfold dvR
    rw [t, m, ngF_1, addF_11, add_neg', trim_01]
  refine ⟨⟨lek rfl, lek rfl, hq, co2 (f := x) (g := f) (by omega), by rw [t]; exact hQ, by rw [t]; exact okMu1 (a := e) (g := f) (by omega) (by omega), by rw [t, m]; exact coAll1 (x := x) (by omega), by rw [t, m, ngF_1]; exact oa11 (ca_neg (by omega)), by rw [t, m]; exact lek rfl⟩, ?_⟩
  rw [e1, e2]
  exact ⟨lek rfl, rfl, rfl⟩
theorem dv2 {f x y e x' : RF} {Q Q' Qf : List RF} {a b c n : Nat} [HC f 2] [HC x a] [HC y b] [HC e c] (hf : f ≠ 0) (hy : y ≠ 0) (he : e * f = y) (hx : x + -(e * f.d) = x') (ha : a + c ≤ 42) (hb : b ≤ 40) (hc : c ≤ 20) (hQ : OkAdd Q [0, e]) (hq : Q.length ≤ 900) (eQ : trimF (addF Q [0, e]) = Q')
    (rest : DvRun [f] Qf [] n Q' (trimF [x'])) : DvRun [f] Qf [] (n + 1) Q [x, y] := by
  have t := dvT2 (x := x) hf hy he
  have m : trimF (muF [0, e] [f]) = [e * f.d, y] := by rw [mu2, he, show e * f.d + 0 * f = e * f.d by grind, trim2 hy]
  have e1 : dvQ [f] Q [x, y] = Q' := by
    unfold dvQ
    rw [t, eQ]
  have e2 : dvR [f] [x, y] = trimF [x'] := by
    unfold dvR
    rw [t, m, ngF_2, addF_22, hx, add_neg', trim_z1]
  refine ⟨⟨lek rfl, lek rfl, hq, co2 (f := y) (g := f) (by omega), by rw [t]; exact hQ, by rw [t]; exact okMu2 (a := 0) (b := e) (g := f) (by omega) (by omega) (by omega) (by omega), by rw [t, m]; exact coAll2 (x := e * f.d) (y := y) (by omega) (by omega), by rw [t, m, ngF_2]; exact oa22 (cc (f := x) (g := -(e * f.d)) (by omega)) (ca_neg (by omega)), by rw [t, m]; exact lek rfl⟩, ?_⟩
  rw [e1, e2]
  exact rest
theorem dv3 {f x y z e x' y' : RF} {Q' Qf : List RF} {a b d c n : Nat} [HC f 2] [HC x a] [HC y b] [HC z d] [HC e c] (hf : f ≠ 0) (hz : z ≠ 0) (he : e * f = z) (hx : x + -(e * f.d.d) = x') (hy : y + -(e * (f.d + f.d)) = y') (ha : a ≤ 5) (hb : b ≤ 5) (hd : d ≤ 5) (hc : c ≤ 5) (eQ : [0, 0, e] = Q')
    (rest : DvRun [f] Qf [] n Q' (trimF [x', y'])) : DvRun [f] Qf [] (n + 1) [] [x, y, z] := by
  have t := dvT3 (x := x) (y := y) hf hz he
  have h0 : e ≠ 0 := fun w => hz (by rw [← he, w]; grind)
  have m : trimF (muF [0, 0, e] [f]) = [e * f.d.d, e * (f.d + f.d), z] := by rw [mu3, he, show e * f.d.d + (0 * f.d + 0 * f) = e * f.d.d by grind, show e * (f.d + f.d) + 0 * f = e * (f.d + f.d) by grind, trim3 hz]
  have e1 : dvQ [f] [] [x, y, z] = Q' := by
    unfold dvQ
    rw [t, addF_03, trim3 h0, eQ]
  have e2 : dvR [f] [x, y, z] = trimF [x', y'] := by
    unfold dvR
    rw [t, m, ngF_3, addF_33, hx, hy, add_neg', trim_z2]
  refine ⟨⟨lek rfl, lek rfl, lek rfl, co2 (f := z) (g := f) (by omega), okAdd0, by rw [t]; exact okMu3 (a := 0) (b := 0) (c := e) (g := f) (by omega) (by omega) (by omega) (by omega), by rw [t, m]; exact coAll3 (x := e * f.d.d) (y := e * (f.d + f.d)) (z := z) (by omega) (by omega) (by omega), by rw [t, m, ngF_3]; exact oa33 (cc (f := x) (g := -(e * f.d.d)) (by omega)) (cc (f := y) (g := -(e * (f.d + f.d))) (by omega)) (ca_neg (by omega)), by rw [t, m]; exact lek rfl⟩, ?_⟩
  rw [e1, e2]
  exact rest
end K31
set_option Elab.async false
set_option linter.all false
set_option maxRecDepth 100000
set_option maxHeartbeats 4000000
/-! N6: of_image under a function. -/
namespace K31
theorem rf_div (a b : RF) : a / b = a * b⁻¹ := Lean.Grind.Field.div_eq_mul_inv a b
theorem gd {f : RF} (hf : f ≠ 0) : (f⁻¹).d = -f.d * (f * f)⁻¹ := by rw [d_inv hf, rf_div]
theorem gdd {f : RF} (hf : f ≠ 0) : (f⁻¹).d.d = -f.d.d * (f * f)⁻¹ + (1 + 1) * f.d * f.d * (f * f * f)⁻¹ := by
  have hff : f * f ≠ 0 := fun z => by grind
  rw [gd hf, d_mul, d_neg, d_inv hff, rf_div, d_mul]
  grind
theorem mul_zero_of {e f : RF} (hf : f ≠ 0) (h : e * f = 0) : e = 0 := by grind
section
variable {f p q c : RF} {a b d : Nat} [HC f 2] [HC p a] [HC q b] [HC c d]
theorem div1 (hf : f ≠ 0) (hc : c ≠ 0) (hd : d ≤ 2) : ∃ n, DvRun [f] [c * f⁻¹] [] n [] [c] :=
  ⟨1, dv1 (e := c * f⁻¹) hf hc (by grind) (by omega) (by omega) okAdd0 (lek rfl) (by rw [addF_01, trim1 (fun z => hc (by grind))])⟩
theorem div2 (hf : f ≠ 0) (hc : c ≠ 0) (ha : a ≤ 3) (hd : d ≤ 2) : ∃ n, DvRun [f] [p * f⁻¹ + c * (f⁻¹).d, c * f⁻¹] [] n [] [p, c] := by
  have e2 : c * f⁻¹ ≠ 0 := fun z => hc (by grind)
  have hx : p + -(c * f⁻¹ * f.d) = (p * f⁻¹ + c * (f⁻¹).d) * f := by rw [gd hf]; grind
  suffices h : ∃ n, DvRun [f] [p * f⁻¹ + c * (f⁻¹).d, c * f⁻¹] [] n [0, c * f⁻¹] (trimF [(p * f⁻¹ + c * (f⁻¹).d) * f]) by
    obtain ⟨n, h⟩ := h
    exact ⟨n + 1, dv2 (e := c * f⁻¹) hf hc (by grind) hx (by omega) (by omega) (by omega) okAdd0 (lek rfl) (by rw [addF_02, trim2 e2]) h⟩
  by_cases h : (p * f⁻¹ + c * (f⁻¹).d) * f = 0
  · rw [h, trim_01, mul_zero_of hf h]
    exact ⟨0, lek rfl, rfl, rfl⟩
  · rw [trim1 h]
    exact ⟨1, dv1 (e := p * f⁻¹ + c * (f⁻¹).d) hf h rfl (by omega) (by omega) (oa21 (cc (f := 0) (g := p * f⁻¹ + c * (f⁻¹).d) (by omega))) (lek rfl) (by rw [addF_21, trim2 e2, show (0 : RF) + (p * f⁻¹ + c * (f⁻¹).d) = p * f⁻¹ + c * (f⁻¹).d by grind])⟩
theorem div3 (hf : f ≠ 0) (hc : c ≠ 0) (ha : a ≤ 3) (hb : b ≤ 3) (hd : d ≤ 2) : ∃ n, DvRun [f] [p * f⁻¹ + q * (f⁻¹).d + c * (f⁻¹).d.d, q * f⁻¹ + c * ((1 + 1) * (f⁻¹).d), c * f⁻¹] [] n [] [p, q, c] := by
  have e2 : c * f⁻¹ ≠ 0 := fun z => hc (by grind)
  have hy : q + -(c * f⁻¹ * (f.d + f.d)) = (q * f⁻¹ + c * ((1 + 1) * (f⁻¹).d)) * f := by rw [gd hf]; grind
  have hx : p + -(c * f⁻¹ * f.d.d) + -((q * f⁻¹ + c * ((1 + 1) * (f⁻¹).d)) * f.d) = (p * f⁻¹ + q * (f⁻¹).d + c * (f⁻¹).d.d) * f := by rw [gdd hf, gd hf]; grind
  have i0 : HC (p * f⁻¹ + q * (f⁻¹).d + c * (f⁻¹).d.d) (a + 2 + (b + (2 * 2 + 2)) + 1 + (d + (2 * (2 * 2 + 2) + 2)) + 1) := inferInstance
  have i1 : HC (q * f⁻¹ + c * ((1 + 1) * (f⁻¹).d)) (b + 2 + (d + (0 + 0 + 1 + (2 * 2 + 2))) + 1) := inferInstance
  have n0 : (p * f⁻¹ + q * (f⁻¹).d + c * (f⁻¹).d.d) = (p * f⁻¹ + q * (f⁻¹).d + c * (f⁻¹).d.d) := rfl
  generalize hE0 : p * f⁻¹ + q * (f⁻¹).d + c * (f⁻¹).d.d = E0 at *
  generalize hE1 : q * f⁻¹ + c * ((1 + 1) * (f⁻¹).d) = E1 at *
  have fin : ∃ n, DvRun [f] [E0, E1, c * f⁻¹] [] n [0, E1, c * f⁻¹] (trimF [E0 * f]) := by
    by_cases h : E0 * f = 0
    · rw [h, trim_01, mul_zero_of hf h]
      exact ⟨0, lek rfl, rfl, rfl⟩
    · rw [trim1 h]
      exact ⟨1, dv1 (e := E0) hf h rfl (by omega) (by omega) (oa31 (cc (f := 0) (g := E0) (by omega))) (lek rfl) (by rw [show addF [0, E1, c * f⁻¹] [E0] = [0 + E0, E1, c * f⁻¹] from rfl, trim3 e2, show (0 : RF) + E0 = E0 by grind])⟩
  suffices h : ∃ n, DvRun [f] [E0, E1, c * f⁻¹] [] n [0, 0, c * f⁻¹] (trimF [p + -(c * f⁻¹ * f.d.d), E1 * f]) by
    obtain ⟨n, h⟩ := h
    exact ⟨n + 1, dv3 (e := c * f⁻¹) hf hc (by grind) rfl hy (by omega) (by omega) (by omega) (by omega) rfl h⟩
  by_cases h : E1 * f = 0
  · have z := mul_zero_of hf h
    rw [h, trim_z1]
    have e : p + -(c * f⁻¹ * f.d.d) = E0 * f := by rw [← hx, z]; grind
    rw [z] at fin
    rw [e, z]
    exact fin
  · rw [trim2 h]
    obtain ⟨n, fin⟩ := fin
    exact ⟨n + 1, dv2 (e := E1) (x' := E0 * f) hf h rfl hx (by omega) (by omega) (by omega) (oa32 (cc (f := 0) (g := 0)) (cc (f := 0) (g := E1) (by omega))) (lek rfl) (by rw [addF_32, trim3 e2, show (0 : RF) + 0 = 0 by grind, show (0 : RF) + E1 = E1 by grind]) fin⟩
end
/-! ### an operator times 1 from the left -/
structure NA (A : List RF) (c : RF) : Prop where
  ne : A ≠ []
  ld : leadF A = c
  c0 : c ≠ 0
  len : A.length ≤ 3
  m1 : trimF (muF [1] A) = A
  k1 : OkMu [1] A
  cc : Co 50 c
  sc : OkSc c⁻¹ A
theorem one_m (a : RF) : 1 * a = a := by grind
section
variable {p q c : RF} {a b d : Nat} [HC p a] [HC q b] [HC c d]
theorem na1 (hc : c ≠ 0) (hd : d ≤ 5) : NA [c] c := ⟨by simp, rfl, hc, lek rfl, by rw [muF_1, muS_eq, scF_1, addF_01, one_m, trim1 hc], all1 ⟨okSc1 (f := 1) (x := c) (by omega), okAdd0, okAd1 (x := c) (by omega), lek rfl, lek rfl⟩, co (f := c) (by omega), okSc1 (f := c⁻¹) (x := c) (by omega)⟩
theorem na2 (hc : c ≠ 0) (ha : a ≤ 5) (hd : d ≤ 5) : NA [p, c] c := ⟨by simp, rfl, hc, lek rfl, by rw [muF_1, muS_eq, scF_2, addF_02, one_m, one_m, trim2 hc], all1 ⟨okSc2 (f := 1) (x := p) (y := c) (by omega) (by omega), okAdd0, okAd2 (x := p) (y := c) (by omega) (by omega) (by omega), lek rfl, lek rfl⟩, co (f := c) (by omega), okSc2 (f := c⁻¹) (x := p) (y := c) (by omega) (by omega)⟩
theorem na3 (hc : c ≠ 0) (ha : a ≤ 5) (hb : b ≤ 5) (hd : d ≤ 5) : NA [p, q, c] c := ⟨by simp, rfl, hc, lek rfl, by rw [muF_1, muS_eq, scF_3, addF_03, one_m, one_m, one_m, trim3 hc], all1 ⟨okSc3 (f := 1) (x := p) (y := q) (z := c) (by omega) (by omega) (by omega), okAdd0, okAd3 (x := p) (y := q) (z := c) (by omega) (by omega) (by omega) (by omega) (by omega), lek rfl, lek rfl⟩, co (f := c) (by omega), okSc3 (f := c⁻¹) (x := p) (y := q) (z := c) (by omega) (by omega) (by omega)⟩
end
theorem lmOk_1 {A : List RF} {c : RF} {t : List RF} (N : NA A c) (lt : t.length ≤ 1000) (s3 : OkSc c⁻¹ t) (s4 : ∀ k, Co 50 ((trimF (scF c⁻¹ t)).getD k 0)) : LmOk A [1] t := by
  have hl := N.len
  refine ⟨N.k1, lek rfl, by omega, lt, ?_, ?_, ?_, ?_, ?_, ?_, ?_, ?_⟩
  all_goals rw [N.m1]
  · exact N.ne
  · rw [N.ld]; exact N.c0
  · rw [N.ld]; exact N.cc
  · omega
  · rw [N.ld]; exact N.sc
  · rw [N.ld]
    obtain ⟨a, h, ha⟩ := N.cc
    exact all1 ⟨a, 0, h.inv, Cost.one, by omega⟩
  · rw [N.ld]; exact s3
  · rw [N.ld]; exact s4
theorem lmF_1 {A : List RF} {c : RF} (N : NA A c) : lmF [1] A = monF A := by
  unfold lmF monF
  rw [N.m1]
/-! ### products with 1 and with 0 from the right -/
theorem muS_0 (c : RF) : muS ([], []) c = ([], []) := rfl
theorem muS_0s : ∀ l : List RF, l.foldl muS ([], []) = ([], [])
  | [] => rfl
  | c :: l => by rw [List.foldl_cons, muS_0, muS_0s l]
theorem okMu_e (q : List RF) : OkMu q [] := fun k hk => by
  have e : muK q [] k = ([], []) := muS_0s _
  rw [e]
  exact ⟨fun k hk => absurd hk (Nat.not_lt_zero _), okAdd0, ⟨fun k hk => absurd hk (Nat.not_lt_zero _), fun k hk => absurd hk (Nat.not_lt_zero _)⟩, lek rfl, lek rfl⟩
theorem muF_e (q : List RF) : muF q [] = [] := by
  unfold muF
  rw [muS_0s]
theorem addF_10 (a : RF) : addF [a] [] = [a] := rfl
theorem ngF_0 : ngF [] = [] := rfl
theorem subOk_e {q : List RF} (hq : q.length ≤ 1000) : SubOk [1] q [] ∧ subQ [1] q [] = [1] := by
  refine ⟨⟨okMu_e q, by rw [muF_e, trim_nil]; exact coAll0, by rw [muF_e, trim_nil, ngF_0]; exact fun k _ h => absurd h (Nat.not_lt_zero _), hq, lek rfl, lek rfl, by rw [muF_e, trim_nil]; exact lek rfl⟩, ?_⟩
  unfold subQ
  rw [muF_e, trim_nil, ngF_0, addF_10, trim1 rf10]
theorem mo1 (a : RF) : muS ([], [1]) a = ([a], [0, 1]) := by rw [muS_eq, scF_1, addF_01, adF_1, d_one, show a * 1 = a by grind]
theorem mo2 (a b : RF) : muS ([a], [0, 1]) b = ([a, b], [0, 0, 1]) := by rw [muS_eq, scF_2, addF_12, adF_2, d_one, d_zero, show b * 0 + a = a by grind, show b * 1 = b by grind, show (0 : RF) + 0 = 0 by grind]
theorem mo3 (a b c : RF) : (muS ([a, b], [0, 0, 1]) c).1 = [a, b, c] := by rw [muS_eq, scF_3, addF_23, show c * 0 + a = a by grind, show c * 0 + b = b by grind, show c * 1 = c by grind]
section
variable {x y z : RF} {a b d : Nat} [HC x a] [HC y b] [HC z d]
theorem om0 (h : a ≤ 50) : OkMuS ([], [1]) x := ⟨okSc1 (f := x) (x := 1) (by omega), okAdd0, okAd1 (x := 1) (by omega), lek rfl, lek rfl⟩
theorem om1 (h : a + b ≤ 50) : OkMuS ([x], [0, 1]) y := ⟨okSc2 (f := y) (x := 0) (y := 1) (by omega) (by omega), by
  show OkAdd [x] (scF y [0, 1])
  rw [scF_2]
  exact oa12 (cc (f := x) (g := y * 0) (by omega)), okAd2 (x := 0) (y := 1) (by omega) (by omega) (by omega), lek rfl, lek rfl⟩
theorem om2 (h : a + d ≤ 50) (h2 : b + d ≤ 50) : OkMuS ([x, y], [0, 0, 1]) z := ⟨okSc3 (f := z) (x := 0) (y := 0) (z := 1) (by omega) (by omega) (by omega), by
  show OkAdd [x, y] (scF z [0, 0, 1])
  rw [scF_3]
  exact oa23 (cc (f := x) (g := z * 0) (by omega)) (cc (f := y) (g := z * 0) (by omega)), okAd3 (x := 0) (y := 0) (z := 1) (by omega) (by omega) (by omega) (by omega) (by omega), lek rfl, lek rfl⟩
theorem subOk_1 (hx : x ≠ 0) (h : a ≤ 50) : SubOk [] [x] [1] ∧ subQ [] [x] [1] = [-x] := by
  have m : trimF (muF [x] [1]) = [x] := by rw [muF_1, mo1, trim1 hx]
  refine ⟨⟨all1 (om0 (x := x) h), by rw [m]; exact coAll1 h, okAdd0, lek rfl, lek rfl, lek rfl, by rw [m]; exact lek rfl⟩, ?_⟩
  unfold subQ
  rw [m, ngF_1, addF_01, trim1 (fun z => hx (by grind))]
theorem subOk_2 (hy : y ≠ 0) (h : a + b ≤ 50) : SubOk [] [x, y] [1] ∧ subQ [] [x, y] [1] = [-x, -y] := by
  have m : trimF (muF [x, y] [1]) = [x, y] := by rw [muF_2, mo1, mo2, trim2 hy]
  refine ⟨⟨all2 (om0 (x := x) (by omega)) (by
    show OkMuS (muS ([], [1]) x) y
    rw [mo1]
    exact om1 h), by rw [m]; exact coAll2 (by omega) (by omega), okAdd0, lek rfl, lek rfl, lek rfl, by rw [m]; exact lek rfl⟩, ?_⟩
  unfold subQ
  rw [m, ngF_2, addF_02, trim2 (fun z => hy (by grind))]
theorem subOk_3 (hz : z ≠ 0) (h : a + b ≤ 50) (h2 : a + d ≤ 50) (h3 : b + d ≤ 50) : SubOk [] [x, y, z] [1] ∧ subQ [] [x, y, z] [1] = [-x, -y, -z] := by
  have m : trimF (muF [x, y, z] [1]) = [x, y, z] := by rw [muF_3, mo1, mo2, mo3, trim3 hz]
  refine ⟨⟨all3 (om0 (x := x) (by omega)) (by
    show OkMuS (muS ([], [1]) x) y
    rw [mo1]
    exact om1 h) (by
    show OkMuS (muS (muS ([], [1]) x) y) z
    rw [mo1, mo2]
    exact om2 h2 h3), by rw [m]; exact coAll3 (by omega) (by omega) (by omega), okAdd0, lek rfl, lek rfl, lek rfl, by rw [m]; exact lek rfl⟩, ?_⟩
  unfold subQ
  rw [m, ngF_3, addF_03, trim3 (fun w => hz (by grind))]
end
theorem eu1 {A f Q T : List RF} {n : Nat} (hf : f ≠ []) (h0 : leadF f ≠ 0) (hl : f.length ≤ 1000) (hd : DvRun f Q [] n [] A) (s1 : SubOk [1] Q [] ∧ subQ [1] Q [] = [1]) (s2 : SubOk [] Q [1] ∧ subQ [] Q [1] = T) : EuRun ⟨f, [], [], [1], [1], T⟩ 1 ⟨A, f, trimF [1], [], [], trimF [1]⟩ := by
  rw [trim1 rf10]
  refine ⟨hf, h0, hl, n, Q, [], hd, s1.1, s2.1, rfl, ?_⟩
  rw [s1.2, s2.2]
end K31
set_option Elab.async false
set_option linter.all false
set_option maxRecDepth 100000
set_option maxHeartbeats 4000000
/-! N7: the picks 1, 2, 3. -/
namespace K31
/-- pick 1 -/
theorem pick1 {u : RF} {k : Nat} (hu : Cost 2 u) (h0 : 0 < k) (hk : k ≤ 4) : OkPw1 [-u, 1] k u [-(u * cR ((k : Nat) : Rat)), 1] := by
  have iu : HC u 2 := .of hu
  have h := okPw1 (A := [-u, 1]) (u := u) (okTl_fo (by omega)) (tl_fo u) h0 (by omega) (by omega)
  rw [show -cpF k u = -(u * cR ((k : Nat) : Rat)) by unfold cpF; rw [d_one]; grind] at h
  exact h
/-- pick 2 -/
structure P2 (A : List RF) (f : RF) (R : List RF) : Prop where
  f0 : f ≠ 0
  img : ∃ (fu : EuS) (n m : Nat) (Qf : List RF), EuRun fu n ⟨A, [f], trimF [1], [], [], trimF [1]⟩ ∧ LmOk A fu.s fu.t ∧ DvRun [f] Qf [] m [] (lmF fu.s A) ∧ OkMon Qf ∧ monF Qf = R
  mu : OkMu A [f⁻¹]
  l : A.length ≤ 1000
  mo : OkMon (trimF (muF A [f⁻¹]))
  e : monF (trimF (muF A [f⁻¹])) = R
theorem p2_of {A T Q Q2 R : List RF} {f c : RF} {n m : Nat} (hf : f ≠ 0) (N : NA A c) (hd : DvRun [f] Q [] n [] A) (s1 : SubOk [1] Q [] ∧ subQ [1] Q [] = [1]) (s2 : SubOk [] Q [1] ∧ subQ [] Q [1] = T) (lt : T.length ≤ 1000) (s3 : OkSc c⁻¹ T) (s4 : ∀ k, Co 50 ((trimF (scF c⁻¹ T)).getD k 0))
    (hd2 : DvRun [f] Q2 [] m [] (monF A)) (om : OkMon Q2) (e2 : monF Q2 = R) (mu : OkMu A [f⁻¹]) (em : trimF (muF A [f⁻¹]) = Q) (om1 : OkMon Q) (e1 : monF Q = R) : P2 A f R := by
  refine ⟨hf, ⟨⟨[f], [], [], [1], [1], T⟩, 1, m, Q2, eu1 (by simp) hf (lek rfl) hd s1 s2, lmOk_1 N lt s3 s4, by rw [lmF_1 N]; exact hd2, om, e2⟩, mu, by have := N.len; omega, by rw [em]; exact om1, by rw [em]; exact e1⟩
theorem inv_ne0 {f : RF} (hf : f ≠ 0) : f⁻¹ ≠ 0 := fun z => by
  have h : f * f⁻¹ = 1 := by grind
  rw [z] at h
  exact rf10 (by grind)
theorem mul_ne0 {a b : RF} (ha : a ≠ 0) (hb : b ≠ 0) : a * b ≠ 0 := fun z => by grind
theorem id2 {p c g h : RF} (hc : c ≠ 0) (hg : g ≠ 0) : (1 * g)⁻¹ * (c⁻¹ * p * g + 1 * h) = (c * g)⁻¹ * (p * g + c * h) := by grind
theorem id3a {p q c g h h2 : RF} (hc : c ≠ 0) (hg : g ≠ 0) : (1 * g)⁻¹ * (c⁻¹ * p * g + c⁻¹ * q * h + 1 * h2) = (c * g)⁻¹ * (p * g + q * h + c * h2) := by grind
theorem id3b {q c g h : RF} (hc : c ≠ 0) (hg : g ≠ 0) : (1 * g)⁻¹ * (c⁻¹ * q * g + 1 * ((1 + 1) * h)) = (c * g)⁻¹ * (q * g + c * ((1 + 1) * h)) := by grind
theorem neg_ne0 {a : RF} (ha : a ≠ 0) : -a ≠ 0 := fun z => ha (by grind)
theorem swp2 (p c g h : RF) : c * h + p * g = p * g + c * h := by grind
theorem swp3 (p q c g h h2 : RF) : c * h2 + (q * h + p * g) = p * g + q * h + c * h2 := by grind
theorem swp3b (q c g h : RF) : c * (h + h) + q * g = q * g + c * ((1 + 1) * h) := by grind
theorem p2_1 {f c : RF} [HC f 2] [HC c 2] (hf : f ≠ 0) (hc : c ≠ 0) : P2 [c] f [1] := by
  obtain ⟨n, hd⟩ := div1 (c := c) hf hc (by omega)
  obtain ⟨m, hd2⟩ := div1 (f := f) (c := 1) hf rf10 (by omega)
  have g0 := mul_ne0 hc (inv_ne0 hf)
  have g1 := mul_ne0 rf10 (inv_ne0 hf)
  exact p2_of hf (na1 hc (by omega)) hd (subOk_e (lek rfl)) (subOk_1 g0 (by omega)) (lek rfl) (okSc1 (f := c⁻¹) (x := -(c * f⁻¹)) (by omega)) (by
      rw [scF_1, trim1 (mul_ne0 (inv_ne0 hc) (neg_ne0 g0))]
      exact coAll1 (x := c⁻¹ * -(c * f⁻¹)) (by omega)) (by rw [monL1 hc]; exact hd2) (okMonL1 (c := 1 * f⁻¹) g1 (by omega)) (monL1 g1) (okMu1 (a := c) (g := f⁻¹) (by omega) (by omega)) (by rw [mu1, trim1 g0]) (okMonL1 (c := c * f⁻¹) g0 (by omega)) (monL1 g0)
theorem p2_2 {f p c : RF} [HC f 2] [HC p 1] [HC c 2] (hf : f ≠ 0) (hc : c ≠ 0) : ∃ R, P2 [p, c] f R := by
  obtain ⟨n, hd⟩ := div2 (p := p) (c := c) hf hc (by omega) (by omega)
  obtain ⟨m, hd2⟩ := div2 (f := f) (p := c⁻¹ * p) (c := 1) hf rf10 (by omega) (by omega)
  have g0 := mul_ne0 hc (inv_ne0 hf)
  have g1 := mul_ne0 rf10 (inv_ne0 hf)
  have gf := inv_ne0 hf
  refine ⟨[(c * f⁻¹)⁻¹ * (p * f⁻¹ + c * (f⁻¹).d), 1], p2_of hf (na2 (p := p) hc (by omega) (by omega)) hd (subOk_e (lek rfl)) (subOk_2 (x := p * f⁻¹ + c * (f⁻¹).d) g0 (by omega)) (lek rfl) (okSc2 (f := c⁻¹) (x := -(p * f⁻¹ + c * (f⁻¹).d)) (y := -(c * f⁻¹)) (by omega) (by omega)) ?_ (by rw [monL2 hc]; exact hd2) (okMonL2 (x := c⁻¹ * p * f⁻¹ + 1 * (f⁻¹).d) (c := 1 * f⁻¹) g1 (by omega) (by omega)) ?_ (okMu2 (a := p) (b := c) (g := f⁻¹) (by omega) (by omega) (by omega) (by omega)) ?_ (okMonL2 (x := p * f⁻¹ + c * (f⁻¹).d) (c := c * f⁻¹) g0 (by omega) (by omega)) (monL2 g0)⟩
  · rw [scF_2, trim2 (mul_ne0 (inv_ne0 hc) (neg_ne0 g0))]
    exact coAll2 (x := c⁻¹ * -(p * f⁻¹ + c * (f⁻¹).d)) (y := c⁻¹ * -(c * f⁻¹)) (by omega) (by omega)
  · rw [monL2 g1, id2 hc gf]
  · rw [mu2, trim2 g0, swp2]
theorem p2_3 {f p q c : RF} [HC f 2] [HC p 1] [HC q 1] [HC c 2] (hf : f ≠ 0) (hc : c ≠ 0) : ∃ R, P2 [p, q, c] f R := by
  obtain ⟨n, hd⟩ := div3 (p := p) (q := q) (c := c) hf hc (by omega) (by omega) (by omega)
  obtain ⟨m, hd2⟩ := div3 (f := f) (p := c⁻¹ * p) (q := c⁻¹ * q) (c := 1) hf rf10 (by omega) (by omega) (by omega)
  have g0 := mul_ne0 hc (inv_ne0 hf)
  have g1 := mul_ne0 rf10 (inv_ne0 hf)
  have gf := inv_ne0 hf
  refine ⟨[(c * f⁻¹)⁻¹ * (p * f⁻¹ + q * (f⁻¹).d + c * (f⁻¹).d.d), (c * f⁻¹)⁻¹ * (q * f⁻¹ + c * ((1 + 1) * (f⁻¹).d)), 1], p2_of hf (na3 (p := p) (q := q) hc (by omega) (by omega) (by omega)) hd (subOk_e (lek rfl)) (subOk_3 (x := p * f⁻¹ + q * (f⁻¹).d + c * (f⁻¹).d.d) (y := q * f⁻¹ + c * ((1 + 1) * (f⁻¹).d)) g0 (by omega) (by omega) (by omega)) (lek rfl) (okSc3 (f := c⁻¹) (x := -(p * f⁻¹ + q * (f⁻¹).d + c * (f⁻¹).d.d)) (y := -(q * f⁻¹ + c * ((1 + 1) * (f⁻¹).d))) (z := -(c * f⁻¹)) (by omega) (by omega) (by omega)) ?_ (by rw [monL3 hc]; exact hd2) (okMonL3 (x := c⁻¹ * p * f⁻¹ + c⁻¹ * q * (f⁻¹).d + 1 * (f⁻¹).d.d) (y := c⁻¹ * q * f⁻¹ + 1 * ((1 + 1) * (f⁻¹).d)) (c := 1 * f⁻¹) g1 (by omega) (by omega) (by omega)) ?_ (okMu3 (a := p) (b := q) (c := c) (g := f⁻¹) (by omega) (by omega) (by omega) (by omega)) ?_ (okMonL3 (x := p * f⁻¹ + q * (f⁻¹).d + c * (f⁻¹).d.d) (y := q * f⁻¹ + c * ((1 + 1) * (f⁻¹).d)) (c := c * f⁻¹) g0 (by omega) (by omega) (by omega)) (monL3 g0)⟩
  · rw [scF_3, trim3 (mul_ne0 (inv_ne0 hc) (neg_ne0 g0))]
    exact coAll3 (x := c⁻¹ * -(p * f⁻¹ + q * (f⁻¹).d + c * (f⁻¹).d.d)) (y := c⁻¹ * -(q * f⁻¹ + c * ((1 + 1) * (f⁻¹).d))) (z := c⁻¹ * -(c * f⁻¹)) (by omega) (by omega) (by omega)
  · rw [monL3 g1, id3a hc gf, id3b hc gf]
  · rw [mu3, trim3 g0, swp3, swp3b]
theorem pick2 {A : List RF} {f : RF} (h : opOk A) (hf : Cost 2 f) (f0 : f ≠ 0) : ∃ R, P2 A f R := by
  have i : HC f 2 := .of hf
  rcases h.cases with ⟨c, rfl, i1, h0⟩ | ⟨p, c, rfl, i1, i2, h0⟩ | ⟨p, q, c, rfl, i1, i2, i3, h0⟩
  · exact ⟨_, p2_1 f0 h0⟩
  · exact p2_2 f0 h0
  · exact p2_3 f0 h0
/-- pick 3 -/
structure P3 (A : List RF) : Prop where
  sum : ∃ (fu : EuS) (n : Nat), EuRun fu n ⟨A, A, trimF [1], [], [], trimF [1]⟩ ∧ LmOk A fu.s fu.t ∧ lmF fu.s A = monF A
  mo : OkMon A
  pr : PrTo A [1] [1]
theorem okTlOne : OkTl [1] := ⟨by simp, rf10, co (f := (1 : RF)), co (f := (1 : RF)⁻¹), all0, lek rfl⟩
theorem ins0w {n : Nat} (h : n = 0) : InsTo n 0 [] (unF n 0) [] (some [1]) := by
  subst h
  exact ins0
theorem p3_of {A : List RF} {c : RF} (N : NA A c) (om : OkMon A) (tl : OkTl A) (ng : OkAdd A (ngF A)) (z : trimF (addF A (ngF A)) = []) (ca : ∀ k, Co 50 (A.getD k 0)) (hco : Co2 (leadF A) (leadF A)) : P3 A := by
  have hc := N.c0
  have hl := N.len
  obtain ⟨b, hcost, hb⟩ := N.cc
  have sc1 : OkSc c⁻¹ [-1] := all1 ⟨b, 0, hcost.inv, Cost.one.neg, by omega⟩
  have t : dvT A A = [1] := by
    unfold dvT
    rw [N.ld, Nat.sub_self, show monoF (c / c) 0 = [c / c] from rfl, show c / c = 1 by grind, trim1 rf10]
  have e1 : dvQ A [] A = [1] := by
    unfold dvQ
    rw [t, addF_01, trim1 rf10]
  have e2 : dvR A A = [] := by
    unfold dvR
    rw [t, N.m1, z]
  have hp : 0 < A.length := List.length_pos_iff.mpr N.ne
  have cn : (-(1 : RF)) ≠ 0 := fun z => rf10 (by grind)
  have dv : DvRun A [1] [] 1 [] A := by
    refine ⟨⟨Nat.le_refl _, by omega, lek rfl, hco, okAdd0, by rw [t]; exact N.k1, by rw [t, N.m1]; exact ca, by rw [t, N.m1]; exact ng, by rw [t, N.m1]; omega⟩, ?_⟩
    rw [e1, e2]
    exact ⟨hp, rfl, rfl⟩
  refine ⟨⟨⟨A, [], [], [1], [1], [-1]⟩, 1, eu1 N.ne (by rw [N.ld]; exact hc) (by omega) dv (subOk_e (lek rfl)) (subOk_1 (x := 1) rf10 (by omega)), lmOk_1 N (lek rfl) sc1 ?_, lmF_1 N⟩, om, ?_⟩
  · rw [scF_1, trim1 (mul_ne0 (inv_ne0 hc) cn)]
    intro k
    match k with
    | 0 => exact ⟨b + 0, hcost.inv.mul Cost.one.neg, by omega⟩
    | k + 1 => exact coAll0 k
  · have w0 : (tlF A).length * (tlF [1]).length = 0 := Nat.mul_zero _
    exact ⟨tl, okTlOne, by rw [w0]; omega, 0, [], some [1], ins0w w0, rfl⟩
theorem pick3 {A : List RF} (h : opOk A) : P3 A := by
  rcases h.cases with ⟨c, rfl, i1, h0⟩ | ⟨p, c, rfl, i1, i2, h0⟩ | ⟨p, q, c, rfl, i1, i2, i3, h0⟩
  · exact p3_of (na1 h0 (by omega)) (okMonL1 h0 (by omega)) (okTl1 h0) (by rw [ngF_1]; exact oa11 (ca_neg (by omega))) (by rw [ngF_1, addF_11, add_neg', trim_01]) (coAll1 (x := c) (by omega)) (co2 (f := c) (g := c) (by omega))
  · exact p3_of (na2 (p := p) h0 (by omega) (by omega)) (okMonL2 (x := p) h0 (by omega) (by omega)) (okTl2 h0 (by omega) (by omega)) (by rw [ngF_2]; exact oa22 (ca_neg (by omega)) (ca_neg (by omega))) (by rw [ngF_2, addF_22, add_neg', add_neg', trim_z1, trim_01]) (coAll2 (x := p) (y := c) (by omega) (by omega)) (co2 (f := c) (g := c) (by omega))
  · exact p3_of (na3 (p := p) (q := q) h0 (by omega) (by omega) (by omega)) (okMonL3 (x := p) (y := q) h0 (by omega) (by omega) (by omega)) (okTl3 h0) (by rw [ngF_3]; exact oa33 (ca_neg (by omega)) (ca_neg (by omega)) (ca_neg (by omega))) (by rw [ngF_3, addF_33, add_neg', add_neg', add_neg', trim_z2, trim_z1, trim_01]) (coAll3 (x := p) (y := q) (z := c) (by omega) (by omega) (by omega)) (co2 (f := c) (g := c) (by omega))
end K31
set_option Elab.async false
set_option linter.all false
set_option maxRecDepth 100000
set_option maxHeartbeats 4000000
/-! W38: the law. -/
namespace K31
open PySem PySem.Spec L2
section
variable {X : Cx} {G : Ctx} {M : MCtx} {c : Expr} {pos : Pos} {H0 : Hp} {D : Ends} {rest sa : List Stmt}
/-- a test whose answer is not known -/
def TyU (X : Cx) (c : Expr) (G : Ctx) (M : MCtx) : Prop := PT X c (fun t H Q => ∃ Hf, OkS G t Hf ∧ OkM M Hf H ∧ ∀ b Hf' H', Same Hf Hf' → OkM M Hf' H' → Q b H')
theorem t_cmpU {Pa Pb : VP} {a b : Expr} {op : CmpOp} (ha : TyE X a G M Pa) (hb : TyE X b G M Pb) (ho : OpT X (compareOp op) Pa Pb (vEx vB (fun _ => True))) (hm : behindInMarks op b = false := by first | exact nomark _ | rfl) : TyU X (.Compare a [op] [b] pos) G M :=
  PT.imp (pt_cmpR ho.frame ha hb hm) fun t H Q ⟨Hf, o, m, q⟩ => rd_two (P := vEx vB (fun _ => True)) ⟨Hf, o, m, fun v Hf' H' sm m' ⟨k, _, (p : v = .bl k)⟩ => ⟨k, p, q k Hf' H' sm m'⟩⟩ fun x y Hf H m pa pb Q k => ⟨Hf, m, pa, pb, k⟩
/-- if, the test not known -/
theorem s_ifU (ht : TyU X c G M) (h1 : SOk X sa H0 G M { D with nx := Go X rest D }) (h2 : SOk X rest H0 G M D) : SOk X (.If c sa [] pos :: rest) H0 G M D := by
  refine s_cons (ps_if ht go_pss go_pss) fun t Hf H s o m => ⟨Hf, o, m, fun b Hf' H' s' m' => ?_⟩
  cases b with
  | true =>
    show (if true = true then _ else _)
    rw [if_pos rfl]
    exact h1 t Hf' H' (s.trans s') (o.mono s') m'
  | false =>
    show (if false = true then _ else _)
    rw [if_neg Bool.false_ne_true]
    exact (s_end h2 rfl : SOk X [] H0 G M { D with nx := Go X rest D }) t Hf' H' (s.trans s') (o.mono s') m'
theorem o_eqU {g : Int → Prop} {j : Int} : OpT X (compareOp .Eq) (vEx vI g) (vI j) (vEx vB (fun _ => True)) := by
  intro pins s t H x y v u Q I rx ry w
  obtain ⟨⟨i, gi, p⟩, pb, k⟩ := w
  exact o_eq (i := i) (j := j) pins s t H x y v u Q I rx ry ⟨p, pb, fun v H' s p => k v H' s ⟨_, trivial, p⟩⟩
end
section
variable {w : World} {K : PySem.W.Frag} {mg : Str → Option Value} {base : Heap}
theorem prod_c {P : Program} (V : Ev P K mg) {A B R : List RF} (h : PrTo A B R) : CalT P w K mg base 66 "of_product" [vO K A, vO K B] [] (vO K R) := by
  obtain ⟨hA, hB, hw, n, rs, r, h0, h1⟩ := h
  exact of_product_c V A B R hA hB n rs r hw h0 h1
theorem fo_c {P : Program} (V : Ev P K mg) {u : RF} {a : Nat} (hu : Cost a u) (ha : a ≤ 50) : CalT P w K mg base 56 "first_order" [vF K u] [] (vO K [-u, 1]) := by
  have h := first_order_c (w := w) (base := base) V u ⟨a, hu, ha⟩
  rw [trim2 rf10] at h
  exact h
theorem of_c {P : Program} (V : Ev P K mg) {f : RF} (hf : f ≠ 0) : CalT P w K mg base 7 "of_function" [vF K f] [] (vO K [f]) := by
  have h := of_function_c (w := w) (base := base) V f
  rw [trim1 hf] at h
  exact h
theorem img_c {P : Program} (V : Ev P K mg) {A R : List RF} {f : RF} (hA : A ≠ []) (h : P2 A f R) : CalT P w K mg base 66 "of_image" [vO K A, vO K [f]] [] (vO K R) := by
  obtain ⟨fu, n, m, Qf, h1, h2, h3, h4, rfl⟩ := h.img
  exact of_image_c V A [f] hA (by simp) fu n h1 h2 m Qf h.f0 (lek rfl) h3 h4
theorem after_c {P : Program} (V : Ev P K mg) {A R : List RF} {f : RF} (h : P2 A f R) : MetT P w K mg base 60 (He.ga K "Operator") "after" [vO K A, vF K f⁻¹] [] (vO K (trimF (muF A [f⁻¹]))) := by
  have e := trim1 (inv_ne0 h.f0)
  have h2 := O_after (w := w) (base := base) V A f⁻¹ (by rw [e]; exact h.mu) h.l
  rw [e] at h2
  exact h2
theorem monic_c {P : Program} (V : Ev P K mg) {A R : List RF} (h : OkMon A) (e : monF A = R) : MetT P w K mg base 58 (He.ga K "Operator") "monic" [vO K A] [] (vO K R) := e ▸ O_monicM V A h
theorem sum_c {P : Program} (V : Ev P K mg) {A : List RF} (hA : A ≠ []) (h : P3 A) : CalT P w K mg base 65 "of_sum" [vO K A, vO K A] [] (vO K (monF A)) := by
  obtain ⟨fu, n, h1, h2, h3⟩ := h.sum
  exact h3 ▸ of_sum_c V A A hA hA fu n h1 h2
theorem cR1 : cR (1 : Rat) = 1 := rfl
/-- of_ratio(Ratio(i)) -/
theorem e_ofr {P : Program} (V : Ev P K mg) {X : Cx} {G : Ctx} {M : MCtx} {j : Nat} {p1 p2 pos pos2 : Pos} {e : Expr} {i : Int} {cc : Nat} (hX : X.prog = P ∧ X.w = w ∧ X.K = K ∧ X.mg = mg ∧ X.base = base) (hc : Cost cc (cR ((i : Int) : Rat))) (hcc : cc ≤ 50) (he : TyE X e G [] (vI i)) (hr : Room j X.A) (hj : 54 ≤ j) (hg : Gl X "of_ratio") (hg2 : Gl X "Ratio")
    (hs1 : starEach [e] X.env = (false, eval e X.env) :: starEach [] X.env := by rfl)
    (hs : starEach [.Call (.Name "Ratio" p2) [e] [] pos] X.env = (false, eval (.Call (.Name "Ratio" p2) [e] [] pos) X.env) :: starEach [] X.env := by rfl) : TyE X (.Call (.Name "of_ratio" p1) [.Call (.Name "Ratio" p2) [e] [] pos] [] pos2) G M (vF K (cR ((i : Int) : Rat))) := by
  obtain ⟨rfl, rfl, rfl, rfl, rfl⟩ := hX
  exact e_call (of_ratio_c V hc hcc) hr hj hg (a_cons (e_mk0 (R_mk1 V i) (fun _ => ⟨rfl, trivial⟩) hr (by omega) hg2 (a_cons he a_nil hs1) (by decide) hs1 rfl) a_nil hs) (by decide) hs rfl
end
end K31
set_option Elab.async false
set_option linter.all false
set_option maxRecDepth 100000
set_option maxHeartbeats 4000000
/-! W39: the law is True. -/
namespace K31
open PySem PySem.Spec L2
section
variable {w : World} {K : PySem.W.Frag} {mg : Str → Option Value} {base : Heap}
abbrev cxL (w : World) (K : PySem.W.Frag) (mg : Str → Option Value) (base : Heap) (cdv : Value) (A : Around) (outer : List Env) (s : Shared) (H : Hp) (E : XK) : Cx := cx0 PR w K mg base N_law "law" (defScope st_law) (He.fAd K ("law", none)) cdv A outer s H E
theorem law_tail (V : Ev PR K mg) (ns : List Int) (ad : Addr) {A : List RF} {u f : RF} (hA : opOk A) (hu : Cost 2 u) (hf : Cost 2 f) (f0 : f ≠ 0) {cdv : Value} {A' : Around} {outer : List Env} {s : Shared} {H : Hp} {E : XK} {Q : VK} (hr : Room 74 (A'.deeper (PyProof.Rows.envOfC "law" (defScope st_law) s.heap.objs.size (He.fAd K ("law", none)) cdv)))
    (q : ∀ v H', Same H H' → (vB true).p v H' → Q v H') :
    SOS (cxL w K mg base cdv A' outer s H E) ((defBody st_law).drop 5) H [some (vSc K ns), some (vAt ad), some (vO K A), some (vF K u), some (vF K f), none, none, none, none] (Mst ad) { nx := fun _ H' => Q .non H', rt := Q } := by
  have nd := sc_law.nd
  have hne := hA.ne
  have iu : HC u 2 := .of hu
  have hX : (cxL w K mg base cdv A' outer s H E).prog = PR ∧ (cxL w K mg base cdv A' outer s H E).w = w ∧ (cxL w K mg base cdv A' outer s H E).K = K ∧ (cxL w K mg base cdv A' outer s H E).mg = mg ∧ (cxL w K mg base cdv A' outer s H E).base = base := ⟨rfl, rfl, rfl, rfl, rfl⟩
  refine sos_asg 5 (P := vO K [1]) (e_call (of_c V rf10) hr (by omega) rfl (a_cons (e_ofr V (i := 1) (cc := 0) hX Cost.one (by omega) (e_int (i := 1)) hr (by omega) rfl rfl) a_nil)) ?_ nd
  refine sos_asg 6 (P := vTk 5) (TyX.ty (e_callM (take_c V ad 5 (by omega)) (hr.mono (by omega)) rfl (a_cons (e_nm (P := vAt ad) 1) (a_cons (e_int (i := 5)) a_nil)))) ?_ nd
  refine ⟨s_open 6 rfl fun pk hpk => ?_⟩
  refine s_ifR (k := decide (pk = 0)) (t_cmp (e_nm (P := vI pk) 6) (e_int (i := 0)) o_eq) (fun _ => ?_) fun k0 => ?_
  · obtain ⟨R, p⟩ := pick0 hA hu
    refine s_asg 7 (P := vO K R) (e_mth0 (ks := ["coefficients"]) (monic_c V p.mo p.e) rfl (by decide) hr (by omega) (e_mth (ks := ["coefficients"]) (O_moved V A (-u) p.mv p.l) rfl (by decide) hr (by omega) (e_nm (P := vO K A) 2) (a_cons (e_un (e_nm (P := vF K u) 3) (u_own (F_negC V (co (f := u))) hr (by omega))) a_nil))) ?_ nd
    exact s_retV (R := vB true) (e_eq (e_and (j := true) (k := true) (e_eq (e_cmp (e_call (prod_c V p.a) hr (by omega) rfl (a_cons (e_nm (P := vO K A) 2) (a_cons (e_call (fo_c V hu (by omega)) hr (by omega) rfl (a_cons (e_nm (P := vF K u) 3) a_nil)) a_nil))) (e_nm (P := vO K R) 7) (o_ownEq (O_eq V R R) hr (by omega))) (show vB _ = vB true by rw [decide_eq_true rfl]))
      fun _ => e_one (e_eq (e_cmp (e_call (prod_c V p.b) hr (by omega) rfl (a_cons (e_call (fo_c V hu (by omega)) hr (by omega) rfl (a_cons (e_nm (P := vF K u) 3) a_nil)) (a_cons (e_nm (P := vO K A) 2) a_nil))) (e_nm (P := vO K R) 7) (o_ownEq (O_eq V R R) hr (by omega))) (show vB _ = vB true by rw [decide_eq_true rfl]))) rfl) rfl q
  refine s_ifR (k := decide (pk = 1)) (t_cmp (e_nm (P := vI pk) 6) (e_int (i := 1)) o_eq) (fun _ => ?_) fun k1 => ?_
  · refine s_asg 8 (P := vEx vI (fun i => 1 ≤ i ∧ i ≤ 4)) (e_bin (e_int (i := 1)) (TyX.ty (e_callM (take_c V ad 4 (by omega)) (hr.mono (by omega)) rfl (a_cons (e_nm (P := vAt ad) 1) (a_cons (e_int (i := 4)) a_nil)))) (o_exR (fun i => o_add) (fun i hi => by omega))) ?_ nd
    refine s_open 8 rfl fun j hj => ?_
    obtain ⟨k, rfl⟩ := Int.eq_ofNat_of_zero_le (show 0 ≤ j by omega)
    have hk : Cost 1 (cR (((k : Nat) : Int) : Rat)) := cK (k := k) (by omega)
    have ik : HC (cR (((k : Nat) : Int) : Rat)) 1 := .of hk
    have hp : OkPw1 [-u, 1] k u [-(u * cR (((k : Nat) : Int) : Rat)), 1] := pick1 hu (by omega) (by omega)
    exact s_retV (R := vB true) (e_eq (e_cmp (e_call0 (of_power_d1 V [-u, 1] k u _ hp) (fun _ => ⟨rfl, trivial⟩) hr (by omega) rfl (a_cons (e_call (fo_c V hu (by omega)) hr (by omega) rfl (a_cons (e_nm (P := vF K u) 3) a_nil)) (a_cons (e_nm (P := vI ((k : Nat) : Int)) 8) a_nil)))
      (e_call (fo_c V (a := 3) (hu.mul hk) (by omega)) hr (by omega) rfl (a_cons (e_bin (e_nm (P := vF K u) 3) (e_ofr V (i := ((k : Nat) : Int)) (cc := 1) hX hk (by omega) (e_nm (P := vI ((k : Nat) : Int)) 8) hr (by omega) rfl rfl) (o_own (op := .Mult) (F_mulC V (co2 (f := u) (g := cR (((k : Nat) : Int) : Rat)))) V.W.m.sF hr (by omega))) a_nil)) (o_ownEq (O_eq V _ _) hr (by omega))) (show vB _ = vB true by rw [decide_eq_true rfl])) rfl q
  refine s_ifR (k := decide (pk = 2)) (t_cmp (e_nm (P := vI pk) 6) (e_int (i := 2)) o_eq) (fun _ => ?_) fun k2 => ?_
  · obtain ⟨R, p⟩ := pick2 hA hf f0
    have jf : HC f 2 := .of hf
    exact s_retV (R := vB true) (e_eq (e_and (j := true) (k := true) (e_eq (e_cmp (e_call (img_c V hne p) hr (by omega) rfl (a_cons (e_nm (P := vO K A) 2) (a_cons (e_call (of_c V f0) hr (by omega) rfl (a_cons (e_nm (P := vF K f) 4) a_nil)) a_nil)))
        (e_mth0 (ks := ["coefficients"]) (monic_c V p.mo p.e) rfl (by decide) hr (by omega) (e_mth (ks := ["coefficients"]) (after_c V p) rfl (by decide) hr (by omega) (e_nm (P := vO K A) 2) (a_cons (e_mth0 (ks := ["num", "den"]) (F_invC V (co (f := f)) f0) rfl (by decide) hr (by omega) (e_nm (P := vF K f) 4)) a_nil))) (o_ownEq (O_eq V R R) hr (by omega))) (show vB _ = vB true by rw [decide_eq_true rfl]))
      fun _ => e_one (e_eq (e_cmp (e_call (of_image_0 V A hne) hr (by omega) rfl (a_cons (e_nm (P := vO K A) 2) (a_cons (e_eq (e_mk (O_mk V []) hr (by omega) rfl (a_cons (e_sqT (e_tup a_nil (show (0 : Nat) ≤ 100 by decide))) a_nil)) (by rw [trim_nil])) a_nil))) (e_nm (P := vO K [1]) 5) (o_ownEq (O_eq V _ _) hr (by omega))) (show vB _ = vB true by rw [trim1 rf10, decide_eq_true rfl]))) rfl) rfl q
  refine s_ifR (k := decide (pk = 3)) (t_cmp (e_nm (P := vI pk) 6) (e_int (i := 3)) o_eq) (fun _ => ?_) fun k3 => ?_
  · have p := pick3 hA
    have hp0 : OkPw0 [1] 1 [1] := ⟨okTlOne, rfl, by omega, _, ins0⟩
    exact s_retV (R := vB true) (e_eq (e_and (j := true) (k := true) (e_eq (e_cmp (e_call (sum_c V hne p) hr (by omega) rfl (a_cons (e_nm (P := vO K A) 2) (a_cons (e_nm (P := vO K A) 2) a_nil))) (e_mth0 (ks := ["coefficients"]) (monic_c V p.mo rfl) rfl (by decide) hr (by omega) (e_nm (P := vO K A) 2)) (o_ownEq (O_eq V _ _) hr (by omega))) (show vB _ = vB true by rw [decide_eq_true rfl]))
      fun _ => e_eq (e_and (j := true) (k := true) (e_eq (e_cmp (e_call (prod_c V p.pr) hr (by omega) rfl (a_cons (e_nm (P := vO K A) 2) (a_cons (e_nm (P := vO K [1]) 5) a_nil))) (e_nm (P := vO K [1]) 5) (o_ownEq (O_eq V _ _) hr (by omega))) (show vB _ = vB true by rw [decide_eq_true rfl]))
        fun _ => e_one (e_eq (e_cmp (e_call0 (of_power_d0 V [1] 1 [1] hp0) (fun _ => ⟨rfl, trivial⟩) hr (by omega) rfl (a_cons (e_nm (P := vO K [1]) 5) (a_cons (e_int (i := 2)) a_nil))) (e_nm (P := vO K [1]) 5) (o_ownEq (O_eq V _ _) hr (by omega))) (show vB _ = vB true by rw [decide_eq_true rfl]))) rfl) rfl) rfl q
  · exact s_retV (R := vB true) (e_eq (e_and (j := true) (k := true) (e_call (is_refused_c V A hne) hr (by omega) rfl (a_cons (e_nm (P := vO K A) 2) a_nil)) fun _ => e_one (e_call (is_large_c V A hA) hr (by omega) rfl (a_cons (e_nm (P := vO K A) 2) a_nil))) rfl) rfl q
end
end K31
set_option Elab.async false
set_option linter.all false
set_option maxRecDepth 100000
set_option maxHeartbeats 4000000
/-! W40: the law, whole. -/
namespace K31
open PySem PySem.Spec L2
section
variable {w : World} {K : PySem.W.Frag} {mg : Str → Option Value} {base : Heap}
theorem sos_if {X : Cx} {H0 : Hp} {G : Ctx} {M : MCtx} {D : Ends} {rest sa : List Stmt} {c : Expr} {pos : Pos} (hc : TyU X c G M) (h1 : SOS X sa H0 G M { D with nx := Go X rest D }) (h2 : SOS X rest H0 G M D) : SOS X (.If c sa [] pos :: rest) H0 G M D := ⟨s_ifU hc h1.go h2.go⟩
theorem sos_ifR {X : Cx} {H0 : Hp} {G : Ctx} {M : MCtx} {D : Ends} {rest sa : List Stmt} {c : Expr} {pos : Pos} {k : Bool} (hc : TyT X c G M k) (h1 : k = true → SOS X sa H0 G M { D with nx := Go X rest D }) (h2 : k = false → SOS X rest H0 G M D) : SOS X (.If c sa [] pos :: rest) H0 G M D := ⟨s_ifR hc (fun h => (h1 h).go) fun h => (h2 h).go⟩
theorem sos_open {X : Cx} {sts : List Stmt} {H0 : Hp} {G : Ctx} {M : MCtx} {D : Ends} {α : Type} {F : α → VP} {Good : α → Prop} (i : Nat) (hG : G[i]? = some (some (vEx F Good))) (h : ∀ a, Good a → SOS X sts H0 (G.set i (some (F a))) M D) : SOS X sts H0 G M D := ⟨s_open i hG fun a g => (h a g).go⟩
theorem sos_end {X : Cx} {rest : List Stmt} {H0 : Hp} {G : Ctx} {M : MCtx} {D : Ends} (h : SOS X rest H0 G M D) {D' : Ends} (hD : D'.nx = Go X rest D) : SOS X [] H0 G M D' := ⟨s_end h.go hD⟩
theorem law_fn (V : Ev PR K mg) {fd : FuncData} (F : FunD K "law" "law" (defArgs st_law) (defBody st_law) (defScope st_law) [] [] (He.fAd K ("law", none)) fd) (ns : List Int) (hl : ns.length ≤ 63) (hz : ∀ z ∈ ns, cellOk z) : FnOk PR w K mg base CX0 75 (He.fAd K ("law", none)) fd p_law (spV [vSc K ns] (vB true)) := by
  obtain ⟨fo, Fo⟩ := V.W.fd_of_poly
  have nd := sc_law.nd
  refine fn_V F sc_law rfl fun cdv A' outer s H E Q hr q => ?_
  refine s_asgN 1 (n_call (state_c V ns hl hz) hr (by omega) rfl (a_cons (e_nm (P := vSc K ns) 0) a_nil)) (fun ad => ?_) nd
  have hopoly : ∀ vs Hf, Items [vEx (vP K) (polyOk 1)] vs Hf → ∃ Qs R', Items Qs vs Hf ∧ CalT PR w K mg base 52 "of_poly" Qs [] R' ∧ ∀ v H, R'.p v H → (vEx (vF K) fnOk).p v H := fun vs Hf its => by
    obtain ⟨x, rfl, p, gp, hx⟩ := it1 its
    have hc := poly_cost gp 1 (by omega) (by decide)
    exact ⟨[vP K p], vF K (frac p 1), ⟨hx, trivial⟩, of_poly_c V hc (by omega), fun v H h => ⟨_, hc.mono (by omega), h⟩⟩
  refine s_asg 2 (P := vEx (vO K) opOk) (TyX.ty (e_callM (operator_c V ad) (hr.mono (by omega)) rfl (a_cons (e_nm (P := vAt ad) 1) (a_cons (e_int (i := 2)) a_nil)))) ?_ nd
  refine s_open 2 rfl fun A hA => ?_
  refine s_par 3 4 (Pa := vEx (vF K) fnOk) (Pb := vEx (vF K) fnOk) (e_callX V.W.gl_of_poly Fo.kp hopoly hr (by omega) rfl (a_cons (TyX.ty (e_callM (poly_c V ad 1 (by omega)) (hr.mono (by omega)) rfl (a_cons (e_nm (P := vAt ad) 1) (a_cons (e_int (i := 1)) a_nil)))) a_nil)) (TyX.ty (e_callM (function_c V ad) (hr.mono (by omega)) rfl (a_cons (e_nm (P := vAt ad) 1) a_nil))) ?_ nd
  have tl : ∀ u f, Cost 2 u → Cost 2 f → f ≠ 0 → SOS (cxL w K mg base cdv A' outer s H E) ((defBody st_law).drop 5) H [some (vSc K ns), some (vAt ad), some (vO K A), some (vF K u), some (vF K f), none, none, none, none] (Mst ad) { nx := fun _ H' => Q .non H', rt := Q } := fun u f hu hf f0 => law_tail V ns ad hA hu hf f0 hr q
  have hh : SOS (cxL w K mg base cdv A' outer s H E) ((defBody st_law).drop 3) H [some (vSc K ns), some (vAt ad), some (vO K A), some (vEx (vF K) fnOk), some (vEx (vF K) fnOk), none, none, none, none] (Mst ad) { nx := fun _ H' => Q .non H', rt := Q } := by
    have h4 : SOS (cxL w K mg base cdv A' outer s H E) ((defBody st_law).drop 4) H [some (vSc K ns), some (vAt ad), some (vO K A), some (vEx (vF K) fnOk), some (vEx (vF K) fnOk), none, none, none, none] (Mst ad) { nx := fun _ H' => Q .non H', rt := Q } := by
      refine sos_open 3 rfl fun u hu => ?_
      refine sos_open 4 rfl fun f hf => ?_
      refine sos_ifR (k := decide (f = 0)) (t_val (e_mth0 (ks := ["num", "den"]) (F_is_zero V f) rfl (by decide) hr (by omega) (e_nm (P := vF K f) 4))) (fun _ => ?_) fun h0 => ?_
      · refine sos_asg 4 (P := vF K (cR (((-2 : Int)) : Rat))) (e_ofr V (i := -2) (cc := 2) ⟨rfl, rfl, rfl, rfl, rfl⟩ (Cost.cR (m := -2) (by decide)) (by omega) (e_neg (i := 2)) hr (by omega) rfl rfl) ?_ nd
        refine sos_end (tl u (cR (((-2 : Int)) : Rat)) hu (Cost.cR (m := -2) (by decide)) ?_) rfl
        exact fun z => (cst_ne (a := ((-2 : Int) : Rat)) (by decide)) ((frac_num_zero one_ne).mp (RF.num_zero.mpr z))
      · exact tl u f hu hf (of_decide_eq_false h0)
    refine sos_if (t_cmpU (TyX.ty (e_callM (take_c V ad 3 (by omega)) (hr.mono (by omega)) rfl (a_cons (e_nm (P := vAt ad) 1) (a_cons (e_int (i := 3)) a_nil)))) (e_int (i := 0)) o_eqU) ?_ h4
    refine sos_asg 3 (P := vEx (vF K) fnOk) (TyX.ty (e_callM (function_c V ad) (hr.mono (by omega)) rfl (a_cons (e_nm (P := vAt ad) 1) a_nil))) ?_ nd
    exact sos_end h4 rfl
  cases hh
  assumption
end
end K31
set_option Elab.async false
set_option linter.all false
set_option maxRecDepth 100000
set_option maxHeartbeats 0
/-! FIN: the end. -/
namespace K31
open PySem PySem.Spec PyProof.Rows L2
theorem cell_of {z : Int} (h : Builtin.Int.intBits z ≤ 1048576) : cellOk z := by
  unfold Builtin.Int.intBits at h
  unfold cellOk
  split at h
  · rename_i e
    have e : z = 0 := by simpa using e
    rw [e]
    exact Nat.two_pow_pos _
  · exact Nat.lt_of_lt_of_le Nat.lt_log2_self (Nat.pow_le_pow_right (by decide) h)
/-- walk_ofE, the script's bits told -/
theorem walk_EB {l : PySem.W.OpenLaw} {n k : Nat} {q : Program} {loose : List Str} {XP : (Str → Option Value) → Heap → Prop} {YP : World → Heap → Prop} {d : DefRec} {CX : CXT} {x : Str}
    (hn : l.most = some n) (hn2 : n ≤ sizeLine) (hdf : d.params.defaults = []) (hr : Room k callerA)
    (F : ∀ (w : World) (mg : Str → Option Value) (fa : Addr) (h : Heap), YP w h → h.Ns mainGlobals mg → mg d.name = some (.ref fa) →
      ∃ (K : PySem.W.Frag) (fd : FuncData) (sp : Sp), K.In h ∧ (∀ (s : Shared) (u : Value), BindsTo s fd ⟨[u], []⟩ [(x, u)]) ∧
        (∀ (H : Hp) (a : Addr) (ns : List Int), ns.length ≤ n → (∀ z ∈ ns, Builtin.Int.intBits z ≤ 1048576) → SqL K H a (ns.map V.int) → sp [.ref a] H (fun v _ => v = .bl true) fun _ _ _ => False) ∧
        ∀ base : Heap, K.In base → base.Ns mainGlobals mg → FnOk l.prog w K mg base CX k fa fd [x] sp)
    (hCX : ∀ (H : Hp) (s : Shared) (e : Value) (s' : Shared), CX [] H s (fun _ _ _ => False) e s' → False) :
    PySem.W.WalkO q loose XP YP l.row.toRowW d [] (fun f vs => PySem.call f vs) := by
  refine Att.attach_callB hn hdf fun w s₀ s₁ mg mb fa o pm cd doc a vs ns G Y ho hd hcd hmg hobj hints hlen hbits hg => ?_
  obtain ⟨K, fd, sp, KX, hb, hsp, hF⟩ := F w mg fa _ Y G.T.g hmg
  exact law_call KX G.T.g G.T.b G.T.builtins G.T.nolimit hg hobj hints (Nat.le_trans hlen hn2) hr hF hb (fun H hO hS => hsp H a ns hlen hbits hS) fun H e s' => hCX H s₁ e s'
/-- the law's promise, over every script -/
def spLaw (K : PySem.W.Frag) : Sp := fun vs H Q E => ∃ ns : List Int, ns.length ≤ 63 ∧ (∀ z ∈ ns, cellOk z) ∧ spV [vSc K ns] (vB true) vs H Q E
theorem law_all {w : World} {K : PySem.W.Frag} {mg : Str → Option Value} {base : Heap} (V : Ev PR K mg) {fd : FuncData} (F : FunD K "law" "law" (defArgs st_law) (defBody st_law) (defScope st_law) [] [] (He.fAd K ("law", none)) fd) : FnOk PR w K mg base CX0 75 (He.fAd K ("law", none)) fd p_law (spLaw K) :=
  ⟨fun vs H Q E ⟨ns, h1, h2, h3⟩ => by rw [h3.1.len]; rfl, fun A outer s H args us vs Q E hr e0 hb r ⟨ns, h1, h2, h3⟩ => (law_fn V F ns h1 h2).run A outer s H args us vs Q E hr e0 hb r h3⟩
theorem facts {w : World} {h : Heap} {mg : Str → Option Value} {fa : Addr} (Y : hk.says w h) (G : h.Ns mainGlobals mg) (hfa : mg ("law" : Str) = some (.ref fa)) :
    ∃ (K : PySem.W.Frag) (fd : FuncData) (sp : Sp), K.In h ∧ (∀ (s : Shared) (u : Value), BindsTo s fd ⟨[u], []⟩ [("_law_script", u)]) ∧
        (∀ (H : Hp) (a : Addr) (ns : List Int), ns.length ≤ 63 → (∀ z ∈ ns, Builtin.Int.intBits z ≤ 1048576) → SqL K H a (ns.map V.int) → sp [.ref a] H (fun v _ => v = .bl true) fun _ _ _ => False) ∧
        ∀ base : Heap, K.In base → base.Ns mainGlobals mg → FnOk PR w K mg base CX0 75 fa fd ["_law_script"] sp := by
  obtain ⟨K, KX, c, e, r⟩ := Y
  have W : Wd K mg := Wd.of KX G c e r
  have V : Ev PR K mg := ⟨W, rfl⟩
  have e1 := hfa.symm.trans W.gl_law
  cases e1
  obtain ⟨fd, F⟩ := W.fd_law
  have b := FunD.bindsA (ps := ["_law_script"]) F fun _ _ _ _ _ _ us hl => match us, hl with | [_], _ => rfl
  exact ⟨K, fd, spLaw K, KX, fun s v => b s [v] rfl, fun H a ns h1 h2 hS => ⟨ns, h1, fun z hz => cell_of (h2 z hz), ⟨⟨⟨a, rfl, hS⟩, trivial⟩, fun v H' _ p => p⟩⟩, fun base _ _ => law_all V F⟩
end K31
open PySem PySem.W PySem.Calls PyProof.Rows
theorem PySem.Challenge.cw_indicial_k31_whole_closures_with_first_o_holds : PySem.Challenge.rw_indicial_k31_whole_closures_with_first_o.Holds := by
  w_on; o_law
  refine HandSHeadRun.head_imp (r := K31.RR) (q := view K31.RR.prog [0, 61]) (H := K31.hk) (ob := K31.ob) (M := 20000) (loose := K31.names) (d := HandSHeadRun.topDef K31.RR.prog 61) (kwd := []) K31.ob_eq K31.run
    (by kernel_rfl) (by kernel_rfl) (by kernel_rfl) (by rfl) (by first | assumption | decide +kernel) (by decide +kernel) ⟨rfl, rfl, rfl, rfl, rfl, by decide +kernel⟩ ?hw ?hc
  case hw => w_witness2
  case hc =>
    refine K31.walk_EB (l := PySem.Challenge.rw_indicial_k31_whole_closures_with_first_o) (n := 63) (k := 75) (x := "_law_script") (CX := L2.CX0) rfl (by decide) (by kernel_rfl) ⟨rfl, by decide, by decide⟩ ?F (fun _ _ _ _ z => z)
    intro w mg fa h Y G hmg0
    have hmg : mg ("law" : PySem.Str) = some (.ref fa) := by
      have e : (HandSHeadRun.topDef K31.RR.prog 61).name = ("law" : PySem.Str) := by kernel_rfl
      rw [← e]
      exact hmg0
    exact K31.facts Y G hmg
