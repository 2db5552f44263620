import PyProof.Rows.All
import Wide.All
import OpenK.AllK
import Wide.FinOn
import HandS.ForMost
import HandS.ForExc
import HandS.Evl
import HandS.SortInts
import HandS.IsInst
import HandS.Deep
import HandS.Text
import HandS.Set
import HandS.Strs
import HandS.SetFor
import HandS.Conv
import HandS.Lambda
import HandS.EndOwn
import HandS.Exc
import HandS.ExcIs
import KE.KDflt
import PyProof.Rows.CountFlat
import HandS.ExcInit
import HandS.ExcField
import HandS.ExcOwn
import PyProof.DictUpdate
import HandS.RaiseMore
import PySem.Challenge.RW_tickdivide_k16_texts_that_write_no_beat
set_option Elab.async false
set_option linter.all false
set_option maxRecDepth 100000
set_option maxHeartbeats 5000000
/-! What an object is told to be may be told otherwise ahead of a call and behind it: the drawing list is told by what stays true of it. -/
namespace TD
open PySem PySem.Spec PyProof.Rows L2

/-- the same heap, told otherwise -/
inductive Swaps (P : Program) (w : World) (hp : Heap) : Hp → Hp → Prop where
  | refl (H : Hp) : Swaps P w hp H H
  | step {H H2 : Hp} {x : Addr} {o : HO} : Mut (H x) → ObjOk P w (upd H x o) hp x o → Swaps P w hp (upd H x o) H2 → Swaps P w hp H H2

theorem Swaps.none {P : Program} {w : World} {hp : Heap} {H H2 : Hp} (z : Swaps P w hp H H2) : ∀ b, H b = Option.none → H2 b = Option.none := by
  induction z with
  | refl H => exact fun _ h => h
  | step mu _ _ ih =>
    intro b hb
    refine ih b ?_
    rw [upd_ne (fun e => by subst e; rw [hb] at mu; exact mu)]
    exact hb
theorem Swaps.hok {P : Program} {w : World} {hp : Heap} {H H2 : Hp} (z : Swaps P w hp H H2) : HOk P w H hp → HOk P w H2 hp := by
  induction z with
  | refl H => exact fun h => h
  | step mu new _ ih =>
    intro ok
    exact ih (ok.write mu (.inl rfl) (fun _ _ _ e => e) (objOk_get new) new)
theorem Swaps.un {P : Program} {w : World} {hp : Heap} {fs : List Addr} {H H2 : Hp} (z : Swaps P w hp H H2) : Un fs [] H H2 hp hp := by
  induction z with
  | refl H => exact Un.refl
  | step mu new _ ih => exact (Un.write mu (.inl rfl) (fun _ _ _ e => e) (objOk_get new)).trans ih

section
variable {P : Program} {w : World} {K : PySem.W.Frag} {mg : Str → Option Value} {base : Heap} {k : Nat} {f : Addr} {fd : FuncData} {ps : List Str} {sp sp' : Sp}
theorem view (F : FnOk P w K mg base CX0 k f fd ps sp) (len : ∀ vs H Q E, sp' vs H Q E → vs.length = ps.length)
    (conv : ∀ vs H Q E hp, sp' vs H Q E → HOk P w H hp → ∃ H1 Q1, Swaps P w hp H H1 ∧ sp vs H1 Q1 E ∧ ∀ v H1' hp', HOk P w H1' hp' → Q1 v H1' → ∃ H', Swaps P w hp' H1' H' ∧ Q v H') :
    FnOk P w K mg base CX0 k f fd ps sp' := by
  refine ⟨len, fun A outer s H args us vs Q E hr e0 hb hv hs => ?_⟩
  obtain ⟨H1, Q1, z, h1, back⟩ := conv vs H Q E s.heap hs e0.hok
  have e1 : Env0 P w K mg base A outer s H1 := ⟨e0.frames, e0.mod, fun b o e => ⟨(e0.bs b o e).1, z.none b (e0.bs b o e).2⟩, e0.bsz, e0.funs, fun b hb => z.none b (e0.frf b hb), z.hok e0.hok, e0.bare⟩
  refine codeAny_mono (F.run A outer s H1 args us vs Q1 E hr e1 hb hv h1) fun r s' hq => ?_
  cases r with
  | error e => exact hq
  | ok fl =>
    cases fl with
    | ret u =>
      obtain ⟨v, H1', os, bare, un, hok, rv, q⟩ := hq
      obtain ⟨H', z', q'⟩ := back v H1' s'.heap hok q
      exact ⟨v, H', os, bare, (z.un.trans un).trans z'.un, z'.hok hok, rv, q'⟩
    | next => exact hq
    | brk => exact hq
    | cont => exact hq
/-- no exception leaves: so what leaves is what is wanted -/
theorem up (F : FnOk P w K mg base CX0 k f fd ps sp) : FnOk P w K mg base (L2.CX P w) k f fd ps sp :=
  ⟨F.len, fun A outer s H args us vs Q E hr e0 hb hv hs => codeAny_mono (F.run A outer s H args us vs Q E hr e0 hb hv hs) fun r s' hq => by
    cases r with
    | error e => exact False.elim hq
    | ok fl =>
      cases fl with
      | ret u => exact hq
      | next => exact hq
      | brk => exact hq
      | cont => exact hq⟩
end

/-! ### the drawing list: a number, the cells, a place -/
def phiH (h l : Addr) : Heap → Prop := fun hp => ∃ (m p : Int) (t u : Tok) (n : Nat), hp.get? h = some { cls := .type "list", data := .seq #[.int m t, .ref l, .int p u] n }
def phiL (l : Addr) : Heap → Prop := fun hp => ∃ (cs : List Int) (its : List Value) (n : Nat), cs.length ≤ 63 ∧ Vals (cs.map V.int) its ∧ hp.get? l = some { cls := .type "list", data := .seq its.toArray n }
def Rng (H : Hp) (h : Addr) : Prop := ∃ l, h ≠ l ∧ H h = some (.ext (phiH h l)) ∧ H l = some (.ext (phiL l))
theorem Rng.ext {H H' : Hp} {h : Addr} (r : Rng H h) (e : ∀ a o, H a = some o → H' a = some o) : Rng H' h := by
  obtain ⟨l, n, h1, h2⟩ := r
  exact ⟨l, n, e _ _ h1, e _ _ h2⟩
/-- the three things -/
def h3 (m : Int) (l : Addr) (p : Int) : HO := .lst [.int m, .ref l, .int p]
def hL (cs : List Int) : HO := .lst (cs.map V.int)
theorem upd_comm {H : Hp} {a b : Addr} {o u : HO} (h : a ≠ b) : upd (upd H a o) b u = upd (upd H b u) a o := by
  funext c
  unfold upd
  by_cases h1 : c = a
  · subst h1
    rw [if_neg h]
    simp
  · by_cases h2 : c = b
    · subst h2
      simp [h1]
    · simp [h1, h2]
theorem upd_at {H : Hp} {a : Addr} {o : HO} (h : H a = some o) : upd H a o = H := by
  funext b
  unfold upd
  by_cases e : b = a
  · subst e
    rw [if_pos rfl, h]
  · rw [if_neg e]
theorem okL {P : Program} {w : World} {H : Hp} {hp : Heap} {l : Addr} {cs : List Int} (hl : cs.length ≤ 63) (h : ObjOk P w H hp l (hL cs)) : phiL l hp := by
  obtain ⟨_, its, n, r, e⟩ := h
  exact ⟨cs, its, n, hl, r, e⟩
theorem okH {P : Program} {w : World} {H : Hp} {hp : Heap} {h l : Addr} {m p : Int} (x : ObjOk P w H hp h (h3 m l p)) : phiH h l hp := by
  obtain ⟨_, its, n, r, e⟩ := x
  cases r with
  | cons r1 r =>
    cases r with
    | cons r2 r =>
      cases r with
      | cons r3 r =>
        cases r
        obtain ⟨t, rfl⟩ := r1
        obtain ⟨u, rfl⟩ := r3
        cases r2
        exact ⟨m, p, t, u, n, e⟩
theorem extH {P : Program} {w : World} {H : Hp} {hp : Heap} {h l : Addr} (x : phiH h l hp) : ObjOk P w H hp h (.ext (phiH h l)) := by
  refine ⟨x, ?_, fun h1 h2 q k => ?_⟩
  · obtain ⟨_, _, _, _, _, e⟩ := x
    exact ⟨_, e⟩
  · obtain ⟨m, p, t, u, n, e⟩ := q
    exact ⟨m, p, t, u, n, k _ e⟩
theorem extL {P : Program} {w : World} {H : Hp} {hp : Heap} {l : Addr} (x : phiL l hp) : ObjOk P w H hp l (.ext (phiL l)) := by
  refine ⟨x, ?_, fun h1 h2 q k => ?_⟩
  · obtain ⟨_, _, _, _, _, e⟩ := x
    exact ⟨_, e⟩
  · obtain ⟨cs, its, n, a, r, e⟩ := q
    exact ⟨cs, its, n, a, r, k _ e⟩

section
variable {P : Program} {w : World} {K : PySem.W.Frag} {mg : Str → Option Value} {base : Heap} {k : Nat} {f : Addr} {fd : FuncData}
/-- the next draw, told by the lists themselves -/
def spNext0 : Sp := fun vs H Q _ => ∃ (h l : Addr) (m p many : Int) (cs : List Int), vs = [.ref h, .int many] ∧ h ≠ l ∧ H h = some (h3 m l p) ∧ H l = some (hL cs) ∧ cs.length ≤ 63 ∧ 0 < many ∧ many < 1073741824 ∧
  ∀ (r m' p' : Int) (cs' : List Int) (H' : Hp), 0 ≤ r → r < many → cs'.length ≤ 63 → (∀ b o, H b = some o → b ≠ h → b ≠ l → H' b = some o) → H' h = some (h3 m' l p') → H' l = some (hL cs') → Q (.int r) H'
/-- the next draw: a number below; nothing that is told changes -/
def spNext : Sp := fun vs H Q _ => ∃ (h : Addr) (many : Int), vs = [.ref h, .int many] ∧ Rng H h ∧ 0 < many ∧ many < 1073741824 ∧ ∀ r H', 0 ≤ r → r < many → (∀ b o, H b = some o → H' b = some o) → Q (.int r) H'
theorem next_view (F : FnOk P w K mg base CX0 k f fd ["_law_h", "_law_many"] spNext0) : FnOk P w K mg base CX0 k f fd ["_law_h", "_law_many"] spNext := by
  refine view F (fun vs H Q E h => by obtain ⟨h, many, rfl, _⟩ := h; rfl) fun vs H Q E hp hs ok => ?_
  obtain ⟨h, many, rfl, ⟨l, hne, e1, e2⟩, p1, p2, q⟩ := hs
  obtain ⟨⟨m, p, t, u, n, g1⟩, _⟩ := ok h _ e1
  obtain ⟨⟨cs, its, n2, hc, rc, g2⟩, _⟩ := ok l _ e2
  refine ⟨upd (upd H h (h3 m l p)) l (hL cs), fun v H' => ∃ (r m' p' : Int) (cs' : List Int), v = .int r ∧ 0 ≤ r ∧ r < many ∧ cs'.length ≤ 63 ∧ (∀ b o, H b = some o → b ≠ h → b ≠ l → H' b = some o) ∧ H' h = some (h3 m' l p') ∧ H' l = some (hL cs'), ?_, ?_, ?_⟩
  · refine .step (x := h) (o := h3 m l p) (by rw [e1]; trivial) ⟨by show 3 ≤ sizeLine; decide, [.int m t, .ref l, .int p u], n, .cons ⟨t, rfl⟩ (.cons rfl (.cons ⟨u, rfl⟩ .nil)), g1⟩ ?_
    refine .step (x := l) (o := hL cs) (by rw [upd_ne (Ne.symm hne), e2]; trivial) ⟨by rw [List.length_map]; exact Nat.le_trans hc (by decide), its, n2, rc, g2⟩ (.refl _)
  · refine ⟨h, l, m, p, many, cs, rfl, hne, by rw [upd_ne hne, upd_same], upd_same, hc, p1, p2, fun r m' p' cs' H' r1 r2 hc' st q1 q2 => ⟨r, m', p', cs', rfl, r1, r2, hc', fun b o hb n1 n2 => st b o (by rw [upd_ne n2, upd_ne n1]; exact hb) n1 n2, q1, q2⟩⟩
  · rintro v H1' hp' ok' ⟨r, m', p', cs', rfl, r1, r2, hc', st, f1, f2⟩
    have a1 := okH (ok' h (h3 m' l p') f1)
    have a2 := okL hc' (ok' l (hL cs') f2)
    refine ⟨upd (upd H1' h (.ext (phiH h l))) l (.ext (phiL l)), ?_, q r _ r1 r2 fun b o hb => ?_⟩
    · refine .step (x := h) (o := .ext (phiH h l)) (by rw [f1]; trivial) (extH a1) ?_
      exact .step (x := l) (o := .ext (phiL l)) (by rw [upd_ne (Ne.symm hne), f2]; trivial) (extL a2) (.refl _)
    · by_cases h1 : b = l
      · subst h1
        rw [upd_same, ← e2]
        exact hb
      · rw [upd_ne h1]
        by_cases h2 : b = h
        · subst h2
          rw [upd_same, ← e1]
          exact hb
        · rw [upd_ne h2]
          exact st b o hb h2 h1
/-- what is drawn from, made of the script -/
def spMix0 (K : PySem.W.Frag) : Sp := fun vs H Q _ => ∃ (a : Addr) (ns : List Int) (seed : Int), vs = [.ref a, .int seed] ∧ SqL K H a (ns.map V.int) ∧ ns.length ≤ 63 ∧
  ∀ (h l : Addr) (m : Int) (H' : Hp), (∀ b o, H b = some o → H' b = some o) → H h = none → H l = none → h ≠ l → H' h = some (h3 m l 0) → H' l = some (hL ns) → Q (.ref h) H'
def spMix (K : PySem.W.Frag) : Sp := fun vs H Q _ => ∃ (a : Addr) (ns : List Int) (seed : Int), vs = [.ref a, .int seed] ∧ SqL K H a (ns.map V.int) ∧ ns.length ≤ 63 ∧
  ∀ (h : Addr) (H' : Hp), (∀ b o, H b = some o → H' b = some o) → Rng H' h → Q (.ref h) H'
theorem mix_view (F : FnOk P w K mg base CX0 k f fd ["_law_script", "_law_seed"] (spMix0 K)) : FnOk P w K mg base CX0 k f fd ["_law_script", "_law_seed"] (spMix K) := by
  refine view F (fun vs H Q E h => by obtain ⟨a, ns, seed, rfl, _⟩ := h; rfl) fun vs H Q E hp hs ok => ?_
  obtain ⟨a, ns, seed, rfl, hS, hl, q⟩ := hs
  refine ⟨H, fun v H' => ∃ (h l : Addr) (m : Int), v = .ref h ∧ (∀ b o, H b = some o → H' b = some o) ∧ H h = none ∧ H l = none ∧ h ≠ l ∧ H' h = some (h3 m l 0) ∧ H' l = some (hL ns), .refl _, ?_, ?_⟩
  · exact ⟨a, ns, seed, rfl, hS, hl, fun h l m H' e n1 n2 ne e1 e2 => ⟨h, l, m, rfl, e, n1, n2, ne, e1, e2⟩⟩
  · rintro v H1' hp' ok' ⟨h, l, m, rfl, e, n1, n2, hne, e1, e2⟩
    have a1 := okH (ok' h (h3 m l 0) e1)
    have a2 := okL hl (ok' l (hL ns) e2)
    refine ⟨upd (upd H1' h (.ext (phiH h l))) l (.ext (phiL l)), ?_, q h _ (fun b o hb => ?_) ⟨l, hne, ?_, upd_same⟩⟩
    · refine .step (x := h) (o := .ext (phiH h l)) (by rw [e1]; trivial) (extH a1) ?_
      exact .step (x := l) (o := .ext (phiL l)) (by rw [upd_ne (Ne.symm hne), e2]; trivial) (extL a2) (.refl _)
    · rw [upd_ne (ne_of_none hb n2), upd_ne (ne_of_none hb n1)]
      exact e b o hb
    · rw [upd_ne hne, upd_same]
end
end TD

namespace TD
open PySem PySem.Spec PyProof.Rows L2

/-! ### names of the built-in part -/
structure Blt (mg : Str → Option Value) : Prop where
  len : mg "len" = none
  range : mg "range" = none
  list : mg "list" = none
  sum : mg "sum" = none
  zip : mg "zip" = none
  max : mg "max" = none
  min : mg "min" = none
  sorted : mg "sorted" = none
  set : mg "set" = none
  dict : mg "dict" = none
  enumerate : mg "enumerate" = none
  divmod : mg "divmod" = none
  isinstance : mg "isinstance" = none
  int : mg "int" = none
  str : mg "str" = none
  bool : mg "bool" = none
  tuple : mg "tuple" = none
theorem bt_max : bootBuiltins "max" = some (.builtin "max") := by decide +kernel
theorem bt_min : bootBuiltins "min" = some (.builtin "min") := by decide +kernel
theorem bt_sum : bootBuiltins "sum" = some (.builtin "sum") := by decide +kernel
theorem bt_divmod : bootBuiltins "divmod" = some (.builtin "divmod") := by decide +kernel
theorem bt_isinstance : bootBuiltins "isinstance" = some (.builtin "isinstance") := by decide +kernel
theorem bt_sorted : bootBuiltins "sorted" = some (.builtin "sorted") := by decide +kernel
theorem bt_list : bootBuiltins "list" = some (.type "list") := by decide +kernel
theorem bt_set : bootBuiltins "set" = some (.type "set") := by decide +kernel
theorem bt_dict : bootBuiltins "dict" = some (.type "dict") := by decide +kernel
theorem bt_int : bootBuiltins "int" = some (.type "int") := by decide +kernel
theorem bt_str : bootBuiltins "str" = some (.type "str") := by decide +kernel
theorem bt_bool : bootBuiltins "bool" = some (.type "bool") := by decide +kernel
theorem bt_tuple : bootBuiltins "tuple" = some (.type "tuple") := by decide +kernel

/-! ### a def as its callers know it -/
structure Dn (P : Program) (w : World) (K : PySem.W.Frag) (mg : Str → Option Value) (base : Heap) (k : Nat) (x : Str) (sp : Sp) : Prop where
  ex : ∃ (f : Addr) (fd : FuncData) (ps : List Str), FnOk P w K mg base (L2.CX P w) k f fd ps sp ∧ mg x = some (.ref f) ∧ PySem.W.keepIn K (.ref f) = true ∧ Binds K fd ps []
theorem Dn.of0 {P : Program} {w : World} {K : PySem.W.Frag} {mg : Str → Option Value} {base : Heap} {k : Nat} {x : Str} {sp : Sp} {f : Addr} {fd : FuncData} {ps : List Str} (F : FnOk P w K mg base CX0 k f fd ps sp)
    (hm : mg x = some (.ref f)) (hk : PySem.W.keepIn K (.ref f) = true) (hb : Binds K fd ps []) : Dn P w K mg base k x sp := ⟨f, fd, ps, up F, hm, hk, hb⟩
theorem Dn.of {P : Program} {w : World} {K : PySem.W.Frag} {mg : Str → Option Value} {base : Heap} {k : Nat} {x : Str} {sp : Sp} {f : Addr} {fd : FuncData} {ps : List Str} (F : FnOk P w K mg base (L2.CX P w) k f fd ps sp)
    (hm : mg x = some (.ref f)) (hk : PySem.W.keepIn K (.ref f) = true) (hb : Binds K fd ps []) : Dn P w K mg base k x sp := ⟨f, fd, ps, F, hm, hk, hb⟩
theorem Dn.mono {P : Program} {w : World} {K : PySem.W.Frag} {mg : Str → Option Value} {base : Heap} {j k : Nat} {x : Str} {sp : Sp} (c : Dn P w K mg base j x sp) (h : j ≤ k) : Dn P w K mg base k x sp := by
  obtain ⟨f, fd, ps, F, r⟩ := c.ex
  exact ⟨f, fd, ps, F.mono h, r⟩
theorem Dn.imp {P : Program} {w : World} {K : PySem.W.Frag} {mg : Str → Option Value} {base : Heap} {k : Nat} {x : Str} {sp sp' : Sp} (c : Dn P w K mg base k x sp) (h : ∀ vs H Q E, sp' vs H Q E → sp vs H Q E) : Dn P w K mg base k x sp' := by
  obtain ⟨f, fd, ps, F, r⟩ := c.ex
  exact ⟨f, fd, ps, F.imp h, r⟩
section
variable {X : Cx} {j k : Nat} {x : Str} {sp : Sp} {E : XK} {p pos : Pos} {e : Expr} {es : List Expr} {t : TA}
theorem pe_d (c : Dn X.prog X.w X.K X.mg X.base k x sp) (hr : Room j X.A) (hk : k ≤ j) (hx : Passes (L2.CX X.prog X.w) X E) (hg : Gl X x) (ha : PA X (e :: es) t)
    (hdb : (x == ("__debug__" : Str)) = false := by decide) (he : starEach (e :: es) X.env = (false, eval e X.env) :: starEach es X.env := by rfl) (hpl : (backTo pos (starEach es X.env)).any (·.1) = false := by rfl) :
    PE X (.Call (.Name x p) (e :: es) [] pos) (tCall sp [] E t) := by
  obtain ⟨f, fd, ps, F, hm, hk', hb⟩ := c.ex
  exact pe_call F (hr.mono hk) hg hm hk' hb .nil hx ha hdb he hpl
/-- a constant of the module -/
theorem pe_gl {v : V} (hg : Gl X x) (h : ∃ u, X.mg x = some u ∧ RelV v u) (hd : (x == ("__debug__" : Str)) = false := by decide) : PE X (.Name x pos) (tC v) := by
  obtain ⟨u, hm, r⟩ := h
  exact pe_glob hg hm r hd
end

/-! ### extending heaps -/
abbrev Ex (H H' : Hp) : Prop := ∀ a o, H a = some o → H' a = some o
theorem Ex.refl (H : Hp) : Ex H H := fun _ _ h => h
theorem Ex.trans {H H1 H2 : Hp} (a : Ex H H1) (b : Ex H1 H2) : Ex H H2 := fun x o h => b x o (a x o h)
theorem Ex.new {H : Hp} {p : Addr} {o : HO} (h : H p = none) : Ex H (upd H p o) := fun a u e => by
  rw [upd_ne (ne_of_none e h)]
  exact e
theorem Ex.mut {H H' : Hp} {p : Addr} {o : HO} (e : Ex H H') (h : H p = none) : Ex H (upd H' p o) := fun a u ha => by
  rw [upd_ne (ne_of_none ha h)]
  exact e a u ha
theorem Ex.back {H H' : Hp} {p : Addr} (e : Ex H H') (h : H' p = none) : H p = none := by
  cases h1 : H p with
  | none => rfl
  | some o =>
    rw [e p o h1] at h
    cases h
theorem Ex.sqL {K : PySem.W.Frag} {H H' : Hp} {a : Addr} {xs : List V} (e : Ex H H') (h : SqL K H a xs) : SqL K H' a xs := Evl.ex_l e h
theorem Ex.sqT {K : PySem.W.Frag} {H H' : Hp} {a : Addr} {xs : List V} (e : Ex H H') (h : SqT K H a xs) : SqT K H' a xs := Evl.ex_t e h
mutual
theorem dp_ext {K : PySem.W.Frag} {H H' : Hp} (e : Ex H H') : ∀ {v : V} {d : PyData}, Dp K H v d → Dp K H' v d
  | _, _, .non => .non
  | _, _, .bl b => .bl b
  | _, _, .int i => .int i
  | _, _, .str x => .str x
  | _, _, .lst h a => .lst (e.sqL h) (dpAll_ext e a)
  | _, _, .tup h a => .tup (e.sqT h) (dpAll_ext e a)
theorem dpAll_ext {K : PySem.W.Frag} {H H' : Hp} (e : Ex H H') : ∀ {vs : List V} {ds : List PyData}, DpAll K H vs ds → DpAll K H' vs ds
  | _, _, .nil => .nil
  | _, _, .cons h a => .cons (dp_ext e h) (dpAll_ext e a)
end
theorem Ex.dp {K : PySem.W.Frag} {H H' : Hp} {v : V} {d : PyData} (e : Ex H H') (h : Dp K H v d) : Dp K H' v d := dp_ext e h
theorem Ex.dpAll {K : PySem.W.Frag} {H H' : Hp} {vs : List V} {ds : List PyData} (e : Ex H H') (h : DpAll K H vs ds) : DpAll K H' vs ds := dpAll_ext e h
/-- a list of ints, tracked -/
abbrev LI (H : Hp) (a : Addr) (ns : List Int) : Prop := H a = some (.lst (ns.map V.int))
theorem dpAll_ints {K : PySem.W.Frag} {H : Hp} : ∀ ns : List Int, DpAll K H (ns.map V.int) (ns.map PyData.int)
  | [] => .nil
  | n :: r => .cons (.int n) (dpAll_ints r)
theorem LI.dp {K : PySem.W.Frag} {H : Hp} {a : Addr} {ns : List Int} (h : LI H a ns) : Dp K H (.ref a) (.list (ns.map PyData.int)) := .lst (SqL.of h) (dpAll_ints ns)

theorem sq_upd {K : PySem.W.Frag} {H : Hp} {a : Addr} {xs : List V} : SqL K (upd H a (.lst xs)) a xs := SqL.of upd_same
theorem st_upd {K : PySem.W.Frag} {H : Hp} {a : Addr} {xs : List V} : SqT K (upd H a (.tup xs)) a xs := SqT.of upd_same
theorem upd_lst {H : Hp} {a : Addr} {xs : List V} : upd H a (.lst xs) a = some (.lst xs) := upd_same
theorem iteNSF {c A B : Prop} [Decidable c] (hc : ¬ c) (h : A) : if (!decide c) = true then A else B := by
  rw [decide_eq_false hc]
  exact h
/-! ### lists of ints compared -/
theorem lay_ints : ∀ ns : List Int, PyData.canLayAll0 (ns.map PyData.int) = true
  | [] => by simp [PyData.canLayAll0]
  | n :: r => by simp [PyData.canLayAll0, PyData.canLay0, lay_ints r]
theorem depth_ints : ∀ ns : List Int, PyData.depthAll (ns.map PyData.int) = 0
  | [] => by simp [PyData.depthAll]
  | n :: r => by simp [PyData.depthAll, PyData.depth, depth_ints r]
theorem shaped_ints (ns : List Int) : SeqAt.shaped (.list (ns.map PyData.int)) = true := by
  unfold SeqAt.shaped
  rw [Bool.and_eq_true]
  refine ⟨?_, ?_⟩
  · rw [PyData.canLay0]
    exact lay_ints ns
  · rw [PyData.depth, depth_ints]
    decide
theorem eqvAll_ints : ∀ xs ys : List Int, PyData.eqvAll (xs.map PyData.int) (ys.map PyData.int) = decide (xs = ys)
  | [], [] => by simp [PyData.eqvAll]
  | [], _ :: _ => by simp [PyData.eqvAll]
  | _ :: _, [] => by simp [PyData.eqvAll]
  | x :: xs, y :: ys => by
    simp only [List.map_cons, PyData.eqvAll, PyData.eqv, eqvAll_ints xs ys, List.cons.injEq]
    by_cases h : x = y <;> simp [h]
theorem eqv_ints (xs ys : List Int) : PyData.eqv (.list (xs.map PyData.int)) (.list (ys.map PyData.int)) = decide (xs = ys) := by
  rw [PyData.eqv, eqvAll_ints]
theorem dpAll_sqL {K : PySem.W.Frag} {H : Hp} {a : Addr} {ns : List Int} (h : SqL K H a (ns.map V.int)) : Dp K H (.ref a) (.list (ns.map PyData.int)) := .lst h (dpAll_ints ns)
def rEqLI (K : PySem.W.Frag) : R2 := fun x y H Q => ∃ (a b : Addr) (xs ys : List Int), x = .ref a ∧ y = .ref b ∧ SqL K H a (xs.map V.int) ∧ SqL K H b (ys.map V.int) ∧ Q (.bl (decide (xs = ys))) H
def rNeLI (K : PySem.W.Frag) : R2 := fun x y H Q => ∃ (a b : Addr) (xs ys : List Int), x = .ref a ∧ y = .ref b ∧ SqL K H a (xs.map V.int) ∧ SqL K H b (ys.map V.int) ∧ Q (.bl (!decide (xs = ys))) H
section
variable {X : Cx}
theorem op_eqLI (hu : X.A.units + 64 < cLine) : OpR X (compareOp .Eq) (rEqLI X.K) := fun pins s σ H x y v u Q I rx ry ⟨a, b, xs, ys, ex, ey, h1, h2, q⟩ =>
  op_eqD hu pins s σ H x y v u Q I rx ry ⟨_, _, by rw [ex]; exact dpAll_sqL h1, by rw [ey]; exact dpAll_sqL h2, shaped_ints xs, shaped_ints ys, by rw [eqv_ints]; exact q⟩
theorem op_neLI (hu : X.A.units + 64 < cLine) : OpR X (compareOp .NotEq) (rNeLI X.K) := fun pins s σ H x y v u Q I rx ry ⟨a, b, xs, ys, ex, ey, h1, h2, q⟩ =>
  op_neD hu pins s σ H x y v u Q I rx ry ⟨_, _, by rw [ex]; exact dpAll_sqL h1, by rw [ey]; exact dpAll_sqL h2, shaped_ints xs, shaped_ints ys, by rw [eqv_ints]; exact q⟩
end
/-- an empty list just laid -/
theorem sq_nil {K : PySem.W.Frag} {H : Hp} {n : Addr} : SqL K (upd H n (.lst [])) n (([] : List Int).map V.int) := SqL.of upd_same
end TD

/-! What the program's defs compute, in plain Lean. -/
namespace TD

def gcdZ (x y : Int) : Int := ((Int.gcd x y : Nat) : Int)
theorem gcdZ_mod {a b : Int} (ha : 0 ≤ a) (hb : 0 ≤ b) : gcdZ b (a % b) = gcdZ a b := by
  obtain ⟨n, rfl⟩ := Int.eq_ofNat_of_zero_le ha
  obtain ⟨m, rfl⟩ := Int.eq_ofNat_of_zero_le hb
  show ((Nat.gcd m (n % m) : Nat) : Int) = (Nat.gcd n m : Nat)
  rw [Nat.gcd_comm m, ← Nat.gcd_rec, Nat.gcd_comm]
def lcmZ (x y : Int) : Int := x / gcdZ x y * y

structure Form where
  front : List Int
  round : List Int
  len : Int
  deriving DecidableEq

/-- the gaps of a round -/
def gapsRound (ticks : List Int) (len : Int) : List Int := List.zipWith (fun soon late => late - soon) ticks (ticks.tail ++ [ticks.headD 0 + len])
/-- a part of the gaps that comes again and again -/
def partOk (gaps : List Int) (m : Nat) : Bool := decide (gaps.length % m = 0) && decide (gaps = (List.replicate (gaps.length / m) (gaps.take m)).flatten)
def leastFrom (gaps : List Int) : Nat → Nat → Nat
  | 0, m => m
  | n + 1, m => if partOk gaps m then m else leastFrom gaps n (m + 1)
def least (gaps : List Int) : Nat := leastFrom gaps gaps.length 1
/-- the front's last moments that are of the round; the front from its end -/
def rollBack (len : Int) : List Int → List Int → List Int × List Int
  | [], t => ([], t)
  | x :: r, t => if x + len = t.getLastD 0 then rollBack len r (x :: t.dropLast) else ((x :: r).reverse, t)
def settled (front ticks : List Int) (len : Int) : Form :=
  if ticks = [] then ⟨front, [], 0⟩ else
    let g := gapsRound ticks len
    let m := least g
    let l := (g.take m).sum
    let r := rollBack l front.reverse (ticks.take m)
    ⟨r.1, r.2, l⟩

def tickAt (f : Form) (n : Int) : Option Int :=
  if n < f.front.length then f.front[n.toNat]? else
  if f.round = [] then none else
    let i := n - f.front.length
    some (f.round.getD (i % f.round.length).toNat 0 + i / f.round.length * f.len)
def tickZ (f : Form) (n : Int) : Int := (tickAt f n).getD 0
def countBelow (l : List Int) (m : Int) : Int := (((l.filter fun x => decide (x < m)).length : Nat) : Int)
def countAhead (f : Form) (m : Int) : Int :=
  if f.round = [] ∨ m ≤ f.round.headD 0 then countBelow f.front m else
    countBelow f.front m + (m - f.round.headD 0) / f.len * f.round.length + (((f.round.filter fun x => decide (x - f.round.headD 0 < (m - f.round.headD 0) % f.len)).length : Nat) : Int)
def rangeZ (lo : Int) (n : Nat) : List Int := (List.range n).map fun (i : Nat) => lo + (i : Int)
def allAhead (f : Form) (m : Int) : List Int := (rangeZ 0 (countAhead f m).toNat).map (tickZ f)
def startOf (f : Form) : Int := if f.round ≠ [] then f.round.headD 0 else if f.front ≠ [] then f.front.getLastD 0 + 1 else 0

def bitAt (bits : List Bool) (n : Int) : Bool := bits.getD (n % bits.length).toNat false
def keptFrom (bits : List Bool) : Nat → List Int → List Int
  | _, [] => []
  | i, x :: r => if bitAt bits i then x :: keptFrom bits (i + 1) r else keptFrom bits (i + 1) r
def gated (f : Form) (bits : List Bool) : Option Form :=
  let kept := keptFrom bits 0 f.front
  if f.round = [] then some ⟨kept, [], 0⟩ else
    let many := lcmZ f.round.length bits.length
    let wide := f.len * (many / f.round.length)
    if wide > 5040 then none else
      some (settled kept (((rangeZ f.front.length many.toNat).filter (bitAt bits)).map (tickZ f)) wide)
def laterF (f : Form) (d : Int) : Form := ⟨f.front.map (· + d), f.round.map (· + d), f.len⟩

inductive Two where
  | either | both | but
  deriving DecidableEq
/-- a rising list put in order with another one, nothing twice -/
def insUp (x : Int) : List Int → List Int
  | [] => [x]
  | y :: r => if x < y then x :: y :: r else if x = y then y :: r else y :: insUp x r
def sortUp (l : List Int) : List Int := l.foldr insUp []
def joined (w : Two) (mine theirs : List Int) : List Int :=
  match w with
  | .either => sortUp (mine ++ theirs)
  | .both => mine.filter fun x => decide (x ∈ theirs)
  | .but => mine.filter fun x => !decide (x ∈ theirs)
def ofTwo (w : Two) (f g : Form) : Option Form :=
  let length := lcmZ (max 1 f.len) (max 1 g.len)
  if length > 5040 then none else
    let begin := max (startOf f) (startOf g)
    let found := joined w (allAhead f (begin + length)) (allAhead g (begin + length))
    let ahead := found.filter fun x => decide (x < begin)
    some (settled ahead (found.drop ahead.length) length)

/-- the first ticks, so many of them as there are, from a number on -/
def firstTicks (f : Form) : Nat → Nat → List Int
  | 0, _ => []
  | n + 1, i => match tickAt f i with
    | none => []
    | some x => x :: firstTicks f n (i + 1)
def ledForm (f : Form) (many : Nat) (g : Form) (first : Nat) : Form :=
  let mine := firstTicks f many 0
  let at_ : Int := if mine ≠ [] then max (first : Int) (countAhead g (mine.getLastD 0 + 1)) else first
  if g.round = [] then ⟨mine ++ g.front.drop at_.toNat, [], 0⟩ else
    let begin : Int := max at_ g.front.length
    settled (mine ++ g.front.drop at_.toNat) ((rangeZ begin g.round.length).map (tickZ g)) g.len

inductive Beat where
  | source
  | every (n k : Nat) (b : Beat)
  | gate (bits : List Bool) (b : Beat)
  | later (m : Nat) (b : Beat)
  | two (w : Two) (a b : Beat)
  | led (a : Beat) (many : Nat) (b : Beat) (first : Nat)

/-- what need_short is asked of a form -/
def lateOf (f : Form) : Int := (f.round.take 1 ++ (f.front.drop (f.front.length - 1)) ++ [0]).headD 0
def checked (f : Form) : Option Form := if lateOf f > 5040 then none else some f
def everyBits (n k : Nat) : List Bool := List.replicate k false ++ true :: List.replicate (n - 1 - k) false
def fm : Beat → Option Form
  | .source => checked ⟨[], [0], 1⟩
  | .every n k b => (fm b).bind fun f => (gated f (everyBits n k)).bind checked
  | .gate bits b => (fm b).bind fun f => (gated f bits).bind checked
  | .later m b => (fm b).bind fun f => checked (laterF f m)
  | .two w a b => (fm a).bind fun f => (fm b).bind fun g => (ofTwo w f g).bind checked
  | .led a many b first => (fm a).bind fun f => (fm b).bind fun g => checked (ledForm f many g first)

/-- how many tuples -/
def Beat.size : Beat → Nat
  | .source => 1
  | .every _ _ b | .gate _ b | .later _ b => b.size + 1
  | .two _ a b => a.size + b.size + 1
  | .led a _ b _ => a.size + b.size + 1
/-- its numbers and signs are right -/
def Beat.ok : Beat → Prop
  | .source => True
  | .every n k b => 1 ≤ n ∧ n ≤ 12 ∧ k < n ∧ b.ok
  | .gate bits b => 1 ≤ bits.length ∧ bits.length ≤ 12 ∧ b.ok
  | .later m b => m ≤ 99 ∧ b.ok
  | .two _ a b => a.ok ∧ b.ok
  | .led a many b first => many ≤ 9999 ∧ first ≤ 9999 ∧ a.ok ∧ b.ok
end TD
namespace TD
def evenBits (p q : Nat) : List Bool := (List.range q).map fun place => (List.range p).any fun k => k * q / p == place
end TD

namespace TD
open PySem PySem.Spec PyProof.Rows L2

/-- an exception's class over ValueError -/
structure ExC (K : PySem.W.Frag) (mg : Str → Option Value) (x : Str) (C : Addr) : Prop where
  gC : mg x = some (.ref C)
  q : PySem.W.excIn K C [.type "ValueError", .type "Exception", .type "BaseException", .type "object"] "ValueError.__new__" = true
  kC : PySem.W.keepIn K (.ref C) = true
  sB : PySem.W.subIn K (.ref C) (.type "BaseException") = some true
  tC : PySem.W.typeIn K (.ref C) = some (.type "type")

/-- a form stands at p: a tuple of two lists and a number -/
structure FormP (H : Hp) (v : V) (f : Form) (p a b : Addr) : Prop where
  v : v = .ref p
  t : H p = some (.tup [.ref a, .ref b, .int f.len])
  a : LI H a f.front
  b : LI H b f.round
def FormAt (H : Hp) (v : V) (f : Form) : Prop := ∃ p a b, FormP H v f p a b
theorem FormP.ext {H H' : Hp} {v : V} {f : Form} {p a b : Addr} (h : FormP H v f p a b) (e : Ex H H') : FormP H' v f p a b := ⟨h.v, e _ _ h.t, e _ _ h.a, e _ _ h.b⟩
theorem FormAt.ext {H H' : Hp} {v : V} {f : Form} (h : FormAt H v f) (e : Ex H H') : FormAt H' v f := let ⟨p, a, b, q⟩ := h; ⟨p, a, b, q.ext e⟩
/-- .. its lists new -/
def FormNew (H H' : Hp) (v : V) (f : Form) : Prop := ∃ p a b, FormP H' v f p a b ∧ H p = none ∧ H a = none ∧ H b = none ∧ a ≠ b
theorem FormNew.at {H H' : Hp} {v : V} {f : Form} (h : FormNew H H' v f) : FormAt H' v f := let ⟨p, a, b, q, _⟩ := h; ⟨p, a, b, q⟩
theorem FormNew.from {H0 H H' : Hp} {v : V} {f : Form} (h : FormNew H H' v f) (e : Ex H0 H) : FormNew H0 H' v f := let ⟨p, a, b, q, h1, h2, h3, h4⟩ := h; ⟨p, a, b, q, e.back h1, e.back h2, e.back h3, h4⟩
/-- a form is laid: its tuple last -/
theorem FormNew.lay {H H1 : Hp} {f : Form} {p a b : Addr} (e : Ex H H1) (hp : H1 p = none) (ha : LI H1 a f.front) (hb : LI H1 b f.round) (na : H a = none) (nb : H b = none) (h : a ≠ b) :
    FormNew H (upd H1 p (.tup [.ref a, .ref b, .int f.len])) (.ref p) f :=
  ⟨p, a, b, ⟨rfl, upd_same, Ex.new hp _ _ ha, Ex.new hp _ _ hb⟩, e.back hp, na, nb, h⟩
/-- .. in three steps -/
theorem FormNew.mk3 {H H1 H2 H3 : Hp} {f : Form} {a b p : Addr} (e0 : Ex H H1) (na : H a = none) (nb : H b = none) (np : H2 p = none) (h : a ≠ b) (e2 : Ex H1 H2) (e3 : Ex H2 H3) (ha : LI H2 a f.front) (hb : LI H2 b f.round)
    (hp : H3 p = some (.tup [.ref a, .ref b, .int f.len])) : FormNew H H3 (.ref p) f :=
  ⟨p, a, b, ⟨rfl, hp, e3 _ _ ha, e3 _ _ hb⟩, (e0.trans e2).back np, na, nb, h⟩
def optV : Option Int → V
  | none => .non
  | some n => .int n
end TD

/-! Readings in which a new object is told by «the heap grows, and it stands there». -/
namespace TD
open PySem PySem.Spec PyProof.Rows L2

theorem PE.imp {X : Cx} {e : Expr} {t t' : TE} (h : PE X e t) (i : ∀ σ H Q, t' σ H Q → t σ H Q) : PE X e t' := ⟨fun pins s σ H Q I q => h.run pins s σ H Q I (i σ H Q q)⟩
/-- a new list, a new tuple, a heap that has grown -/
def nL (H : Hp) (xs : List V) (Q : VK) : Prop := ∀ p H2, H p = none → Ex H H2 → H2 p = some (.lst xs) → Q (.ref p) H2
def nT (H : Hp) (xs : List V) (Q : VK) : Prop := ∀ p H2, H p = none → Ex H H2 → H2 p = some (.tup xs) → Q (.ref p) H2
def nE (H : Hp) (Q : Hp → Prop) : Prop := ∀ H2, Ex H H2 → Q H2
theorem nL.get {H : Hp} {xs : List V} {Q : VK} (h : nL H xs Q) : ∀ p, H p = none → Q (.ref p) (upd H p (.lst xs)) := fun p np => h p _ np (Ex.new np) upd_same
theorem nT.get {H : Hp} {xs : List V} {Q : VK} (h : nT H xs Q) : ∀ p, H p = none → Q (.ref p) (upd H p (.tup xs)) := fun p np => h p _ np (Ex.new np) upd_same
theorem nL_intro {H : Hp} {xs : List V} {Q : VK} (h : ∀ p H2, H p = none → Ex H H2 → H2 p = some (.lst xs) → Q (.ref p) H2) : nL H xs Q := h
theorem nT_intro {H : Hp} {xs : List V} {Q : VK} (h : ∀ p H2, H p = none → Ex H H2 → H2 p = some (.tup xs) → Q (.ref p) H2) : nT H xs Q := h
theorem nE_intro {H : Hp} {Q : Hp → Prop} (h : ∀ H2, Ex H H2 → Q H2) : nE H Q := h

section
variable {X : Cx} {a b : Expr} {ta tb : TE} {es : List Expr} {t : TA} {pos p1 p2 : Pos}
def tTupN (t : TA) : TE := fun σ H Q => t σ H fun xs H1 => xs.length ≤ sizeLine ∧ nT H1 xs Q
def tLstN (t : TA) : TE := fun σ H Q => t σ H fun xs H1 => xs.length ≤ sizeLine ∧ nL H1 xs Q
end
section
variable {X : Cx}
/-- readings may be weakened where the continuation is -/
structure MonoA (t : TA) : Prop where
  mono : ∀ σ H Q Q', (∀ xs H', Q xs H' → Q' xs H') → t σ H Q → t σ H Q'
end
section
variable {X : Cx} {es : List Expr} {t : TA} {pos : Pos}
theorem pe_tupN {x1} (h : PA X es t) : PE X (.Tuple es x1 pos) (tTupN t) := by
  refine ⟨fun pins s σ H Q I hq => ?_⟩
  refine wpAny_Tuple_spliced (thn (h.run pos pins s σ H _ I hq) fun us s1 ⟨xs, H1, I1, r, z, q⟩ => ⟨by rw [← r.length]; exact z, ?_⟩)
  have hf : H1 s1.heap.objs.size = none := I1.hok.fresh (Nat.le_refl _)
  refine ⟨.ref s1.heap.objs.size, upd H1 s1.heap.objs.size (.tup xs), I1.laid (t' := s1.toks) (fun b u e => Heap.get?_push_of_some _ e) (Nat.le_refl _) ?_, rfl, q.get _ hf⟩
  exact ⟨z, us, r, ⟨_, Heap.get?_push_size _ rfl, rfl, _, rfl⟩⟩
theorem pe_lstN (h : PA X es t) : PE X (.List es pos) (tLstN t) := by
  refine ⟨fun pins s σ H Q I hq => ?_⟩
  refine wpAny_List_spliced (thn (h.run pos pins s σ H _ I hq) fun us s1 ⟨xs, H1, I1, r, z, q⟩ => ⟨by rw [← r.length]; exact z, ?_⟩)
  have hf : H1 s1.heap.objs.size = none := I1.hok.fresh (Nat.le_refl _)
  refine ⟨.ref s1.heap.objs.size, upd H1 s1.heap.objs.size (.lst xs), I1.laid (t' := s1.toks) (fun b u e => Heap.get?_push_of_some _ e) (Nat.le_refl _) ?_, rfl, q.get _ hf⟩
  exact ⟨z, us, 0, r, Heap.get?_push_size _ rfl⟩
end

/-! ### operations by values -/
def rSlLN (K : PySem.W.Frag) : V → Option Int → Option Int → Hp → VK → Prop := fun x lo hi H Q => ∃ a xs, x = .ref a ∧ SqL K H a xs ∧ nL H (cutV xs lo hi) Q
def rCatN : R2 := fun x y H Q => ∃ l b xs zs, x = .ref l ∧ y = .ref b ∧ H l = some (.lst xs) ∧ H b = some (.lst zs) ∧ xs.length + zs.length ≤ sizeLine ∧ nL H (xs ++ zs) Q
def rRepN : R2 := fun x y H Q => ∃ l k xs, x = .ref l ∧ y = .int k ∧ H l = some (.lst xs) ∧ -(2 ^ 63) ≤ k ∧ k < 2 ^ 63 ∧ xs.length * k.toNat ≤ sizeLine ∧ nL H (List.replicate k.toNat xs).flatten Q
def rListN (K : PySem.W.Frag) : List V → Hp → VK → Prop := fun xs H Q => ∃ p ys, xs = [.ref p] ∧ (SqL K H p ys ∨ SqT K H p ys) ∧ nL H ys Q
def rDivmodN : List V → Hp → VK → Prop := fun xs H Q => ∃ i j, xs = [.int i, .int j] ∧ CDiv i j ∧ nT H [.int (i / j), .int (i % j)] Q
section
variable {X : Cx}
theorem sl_listN : SlR X (rSlLN X.K) := fun pins s σ H x v vl vu lo hi sl Q I rx hs pl pu ⟨a, xs, e, h, q⟩ => sl_list pins s σ H x v vl vu lo hi sl Q I rx hs pl pu ⟨a, xs, e, h, q.get⟩
theorem op_catN : OpR X (binaryOp .Add) rCatN := fun pins s σ H x y v u Q I rx ry ⟨l, b, xs, zs, e1, e2, h1, h2, hz, q⟩ => op_cat pins s σ H x y v u Q I rx ry ⟨l, b, xs, zs, e1, e2, h1, h2, hz, q.get⟩
theorem op_repN : OpR X (binaryOp .Mult) rRepN := fun pins s σ H x y v u Q I rx ry ⟨l, k, xs, e1, e2, h1, h2, h3, h4, q⟩ => op_rep pins s σ H x y v u Q I rx ry ⟨l, k, xs, e1, e2, h1, h2, h3, h4, q.get⟩
theorem call_listN : CallR X (.type "list") (rListN X.K) := fun pins s σ H xs us Q I r ⟨p, ys, e, h, q⟩ => call_list_of pins s σ H xs us Q I r ⟨p, ys, e, h, q.get⟩
theorem call_divmodN : CallR X (.builtin "divmod") rDivmodN := fun pins s σ H xs us Q I r ⟨i, j, e, c, q⟩ => call_divmod pins s σ H xs us Q I r ⟨i, j, e, c, q.get⟩
end

/-! ### a list of ints against the empty one -/
def tNilI (K : PySem.W.Frag) (ta : TE) : TE := fun σ H Q => ta σ H fun x H1 => ∃ (a : Addr) (xs : List Int), x = .ref a ∧ SqL K H1 a (xs.map V.int) ∧ nE H1 fun H2 => Q (.bl (decide (xs = []))) H2
def tConsI (K : PySem.W.Frag) (ta : TE) : TE := fun σ H Q => ta σ H fun x H1 => ∃ (a : Addr) (xs : List Int), x = .ref a ∧ SqL K H1 a (xs.map V.int) ∧ nE H1 fun H2 => Q (.bl (!decide (xs = []))) H2
section
variable {X : Cx} {a : Expr} {ta : TE} {p1 pos : Pos}
theorem pc_eqNil (hu : X.A.units + 64 < cLine) (ha : PE X a ta) : PC X .Eq a (.List [] p1) (tNilI X.K ta) := by
  refine ⟨fun pins s σ H Q I h => thn (ha.run pins s σ H _ I h) fun v s1 ⟨x, H1, I1, r1, l, xs, ex, hs, q⟩ => ?_⟩
  refine thn ((pe_lst pa_nil).run pins s1 σ H1 (fun y H2 => ∃ n, y = .ref n ∧ H1 n = none ∧ H2 = upd H1 n (.lst [])) I1 ⟨Nat.zero_le _, fun n nn => ⟨n, rfl, nn, rfl⟩⟩) fun u s2 ⟨y, H2, I2, r2, n, ey, nn, eH⟩ => ?_
  subst ex ey eH
  exact op_eqLI hu pins s2 σ _ _ _ _ _ Q I2 r1 r2 ⟨l, n, xs, [], rfl, rfl, (Ex.new nn).sqL hs, sq_nil, q _ (Ex.new nn)⟩
theorem pc_neNil (hu : X.A.units + 64 < cLine) (ha : PE X a ta) : PC X .NotEq a (.List [] p1) (tConsI X.K ta) := by
  refine ⟨fun pins s σ H Q I h => thn (ha.run pins s σ H _ I h) fun v s1 ⟨x, H1, I1, r1, l, xs, ex, hs, q⟩ => ?_⟩
  refine thn ((pe_lst pa_nil).run pins s1 σ H1 (fun y H2 => ∃ n, y = .ref n ∧ H1 n = none ∧ H2 = upd H1 n (.lst [])) I1 ⟨Nat.zero_le _, fun n nn => ⟨n, rfl, nn, rfl⟩⟩) fun u s2 ⟨y, H2, I2, r2, n, ey, nn, eH⟩ => ?_
  subst ex ey eH
  exact op_neLI hu pins s2 σ _ _ _ _ _ Q I2 r1 r2 ⟨l, n, xs, [], rfl, rfl, (Ex.new nn).sqL hs, sq_nil, q _ (Ex.new nn)⟩
end

/-! ### the rules with the written part told by its name -/
section
variable {X : Cx} {K : PySem.W.Frag}
theorem ixl (h : X.K = K) : IxR X (rIxL K) := by subst h; exact ix_list
theorem ixt (h : X.K = K) : IxR X (rIxT K) := by subst h; exact ix_tup
def rLenK (K : PySem.W.Frag) : List V → Hp → VK → Prop := fun xs H Q => ∃ p ys, xs = [.ref p] ∧ (SqL K H p ys ∨ SqT K H p ys) ∧ Q (.int ys.length) H
theorem lenK (h : X.K = K) : CallR X (.builtin "len") (rLenK K) := by subst h; exact call_len_seq
theorem slK (h : X.K = K) : SlR X (rSlLN K) := by subst h; exact sl_listN
theorem eqLI (h : X.K = K) (hu : X.A.units + 64 < cLine) : OpR X (compareOp .Eq) (rEqLI K) := by subst h; exact op_eqLI hu
theorem neLI (h : X.K = K) (hu : X.A.units + 64 < cLine) : OpR X (compareOp .NotEq) (rNeLI K) := by subst h; exact op_neLI hu
theorem eqD (h : X.K = K) (hu : X.A.units + 64 < cLine) : OpR X (compareOp .Eq) (rEqD K) := by subst h; exact op_eqD hu
theorem neD (h : X.K = K) (hu : X.A.units + 64 < cLine) : OpR X (compareOp .NotEq) (rNeD K) := by subst h; exact op_neD hu
theorem inK (h : X.K = K) : OpR X (compareOp .In) (rIn K false) := by subst h; exact op_in_seq
theorem niK (h : X.K = K) : OpR X (compareOp .NotIn) (rIn K true) := by subst h; exact op_notIn_seq
theorem listK (h : X.K = K) : CallR X (.type "list") (rListN K) := by subst h; exact call_listN
theorem sumK (h : X.K = K) (hc : X.calm = true) : CallR X (.builtin "sum") (rSum K) := by subst h; exact cr_sum hc
theorem maxK (h : X.K = K) (hc : X.calm = true) : CallR X (.builtin "max") (rMax K) := by subst h; exact cr_max hc
theorem minK (h : X.K = K) (hc : X.calm = true) : CallR X (.builtin "min") (rMin K) := by subst h; exact cr_min hc
def rSortN (K : PySem.W.Frag) : List V → Hp → VK → Prop := fun vs H Q => ∃ (a : Addr) (ns : List Int), vs = [V.ref a] ∧ SqL K H a (ns.map V.int) ∧ ∀ ns' : List Int, ns'.Perm ns → ns'.Pairwise (· ≤ ·) → nL H (ns'.map V.int) Q
theorem sortK (h : X.K = K) : CallR X (.builtin "sorted") (rSortN K) := by
  subst h
  exact fun pins s σ H xs us Q I r ⟨a, ns, e, hs, q⟩ => cr_sortedI pins s σ H xs us Q I r ⟨a, ns, e, hs, fun ns' p hp hw np => (q ns' hp hw).get p np⟩
theorem isiK (h : X.K = K) : CallR X (.builtin "isinstance") (rIsi K) := by subst h; exact call_isi
theorem isiTK (h : X.K = K) : CallR X (.builtin "isinstance") (rIsiT K) := by subst h; exact call_isiT
variable {a : Expr} {ta : TE} {p1 pos : Pos}
theorem eqNil (h : X.K = K) (hu : X.A.units + 64 < cLine) (ha : PE X a ta) : PC X .Eq a (.List [] p1) (tNilI K ta) := by subst h; exact pc_eqNil hu ha
theorem neNil (h : X.K = K) (hu : X.A.units + 64 < cLine) (ha : PE X a ta) : PC X .NotEq a (.List [] p1) (tConsI K ta) := by subst h; exact pc_neNil hu ha
end
/-! ### slices of lists -/
theorem sIx_neg1 (n d : Nat) : HT.sIx n d (some (-1)) = n - 1 := by
  have e : HT.sIx n d (some (-1)) = if (-1 : Int) < 0 then ((-1 : Int) + (n : Int)).toNat else min (-1 : Int).toNat n := rfl
  rw [e, if_pos (by decide)]
  omega
theorem cut_from {xs : List V} {n : Nat} : cutV xs (some (n : Int)) none = xs.drop n := by
  unfold cutV
  rw [HT.sIx_nat, HT.sIx_none]
  by_cases h : n ≤ xs.length
  · rw [Nat.min_eq_left h]
    exact List.take_of_length_le (by rw [List.length_drop]; omega)
  · rw [Nat.min_eq_right (by omega), List.drop_of_length_le (Nat.le_refl _), List.drop_of_length_le (by omega)]
    exact List.take_nil
theorem cut_to {xs : List V} {n : Nat} : cutV xs none (some (n : Int)) = xs.take n := by
  unfold cutV
  rw [HT.sIx_nat, HT.sIx_none, List.drop_zero, Nat.sub_zero]
  by_cases h : n ≤ xs.length
  · rw [Nat.min_eq_left h]
  · rw [Nat.min_eq_right (by omega), List.take_length, List.take_of_length_le (by omega)]
theorem cut_but {xs : List V} : cutV xs none (some (-1)) = xs.dropLast := by
  unfold cutV
  rw [HT.sIx_none, List.drop_zero, Nat.sub_zero, List.dropLast_eq_take]
  rw [sIx_neg1]
theorem cut_end {xs : List V} : cutV xs (some (-1)) none = xs.drop (xs.length - 1) := by
  unfold cutV
  rw [HT.sIx_none, sIx_neg1]
  exact List.take_of_length_le (by rw [List.length_drop]; omega)
/-! ### places of lists of ints -/
theorem atI_getI {ns : List Int} {i : Int} (h0 : 0 ≤ i) (h : i < (ns.length : Int)) : atI (ns.map V.int) i = some (.int (ns.getD i.toNat 0)) := by
  obtain ⟨n, rfl⟩ := Int.eq_ofNat_of_zero_le h0
  refine atI_nat ?_
  have h' : n < ns.length := by omega
  rw [List.getElem?_map, List.getElem?_eq_getElem h']
  simp [List.getD, h']
theorem atI_headI {ns : List Int} (h : ns ≠ []) : atI (ns.map V.int) 0 = some (.int (ns.headD 0)) := by
  cases ns with
  | nil => exact absurd rfl h
  | cons n r => exact atI_nat (j := 0) rfl
theorem atI_lastI {ns : List Int} (h : ns ≠ []) : atI (ns.map V.int) (-1) = some (.int (ns.getLastD 0)) := by
  have e : ns = ns.dropLast ++ [ns.getLast h] := (List.dropLast_concat_getLast h).symm
  have e2 : ns.getLastD 0 = ns.getLast h := by rw [List.getLastD_eq_getLast?, List.getLast?_eq_some_getLast h]; rfl
  rw [e2]
  have e3 : ns.map V.int = ns.dropLast.map V.int ++ [.int (ns.getLast h)] := by
    rw [← List.map_singleton, ← List.map_append, List.dropLast_concat_getLast]
  rw [e3]
  exact atI_last _ _
theorem getMapI {ns : List Int} {i : Nat} {y : V} (h : (ns.map V.int)[i]? = some y) : ∃ n, ns[i]? = some n ∧ y = .int n := by
  rw [List.getElem?_map] at h
  obtain ⟨n, h1, h2⟩ := Option.map_eq_some_iff.mp h
  exact ⟨n, h1, h2.symm⟩
theorem not_bnot {c : Prop} [Decidable c] (h : ¬ (!decide c) = true) : c := by
  by_cases hc : c
  · exact hc
  · rw [decide_eq_false hc] at h
    exact absurd rfl h
theorem of_bnot {c : Prop} [Decidable c] (h : (!decide c) = true) : ¬ c := fun hc => by
  rw [decide_eq_true hc] at h
  cases h
theorem not_dec {c : Prop} [Decidable c] (h : ¬ decide c = true) : ¬ c := fun hc => h (decide_eq_true hc)

/-! ### comprehensions whose turns give what is known -/
/-- n turns of J over what grows from H1; Y i x: what the i-th yields -/
structure Goes (J : It) (H1 : Hp) (n : Nat) (Y : Nat → V → Hp → Prop) : Prop where
  go : ∀ i H', i < n → Ex H1 H' → J.go i H'
  yld : ∀ i H' x H'', i < n → Ex H1 H' → J.yld i H' x H'' → Ex H' H'' ∧ Y i x H''
  stop : ∀ H', Ex H1 H' → J.stop n H'
theorem Goes.list {K : PySem.W.Frag} {H1 : Hp} {a : Addr} {xs : List V} (h : SqL K H1 a xs) : Goes (Itl K a) H1 xs.length fun i x _ => xs[i]? = some x where
  go := fun i H' hi e => ⟨xs, xs[i], e.sqL h, List.getElem?_eq_getElem hi⟩
  yld := fun i H' x H'' hi e ⟨eq, hx⟩ => by
    subst eq
    exact ⟨Ex.refl _, hx xs (e.sqL h)⟩
  stop := fun H' e => ⟨xs, e.sqL h, Nat.le_refl _⟩
theorem Goes.range {H1 : Hp} {lo : Int} {n : Nat} : Goes (Itr lo n) H1 n fun i x _ => x = .int (lo + (i : Int)) where
  go := fun i H' hi e => hi
  yld := fun i H' x H'' hi e ⟨eq, hx⟩ => by
    subst eq
    exact ⟨Ex.refl _, hx⟩
  stop := fun H' e => Nat.le_refl _
theorem Goes.enum {K : PySem.W.Frag} {H1 : Hp} {a : Addr} {xs : List V} (h : SqL K H1 a xs) : Goes (Ite K a) H1 xs.length fun i x H'' => ∃ T y, x = .ref T ∧ xs[i]? = some y ∧ H'' T = some (.tup [.int (i : Int), y]) where
  go := fun i H' hi e => ⟨xs, xs[i], e.sqL h, List.getElem?_eq_getElem hi⟩
  yld := fun i H' x H'' hi e ⟨T, y, ex, nT, eH, hx⟩ => by
    subst eH
    exact ⟨Ex.new nT, T, y, ex, hx xs (e.sqL h), upd_same⟩
  stop := fun H' e => ⟨xs, e.sqL h, Nat.le_refl _⟩
theorem Goes.zip {K : PySem.W.Frag} {H1 : Hp} {a b : Addr} {xs ys : List V} (h : SqL K H1 a xs) (h' : SqL K H1 b ys) (hl : xs.length = ys.length) : Goes (Itz K a b) H1 xs.length fun i x H'' => ∃ T y z, x = .ref T ∧ xs[i]? = some y ∧ ys[i]? = some z ∧ H'' T = some (.tup [y, z]) where
  go := fun i H' hi e => ⟨xs, ys, xs[i], ys[i], e.sqL h, e.sqL h', List.getElem?_eq_getElem hi, List.getElem?_eq_getElem (by omega)⟩
  yld := fun i H' x H'' hi e ⟨T, y, z, ex, nT, eH, hx, hy⟩ => by
    subst eH
    exact ⟨Ex.new nT, T, y, z, ex, hx xs (e.sqL h), hy ys (e.sqL h'), upd_same⟩
  stop := fun H' e => ⟨xs, ys, e.sqL h, e.sqL h', .inl (Nat.le_refl _)⟩
theorem Goes.str {H1 : Hp} {x : Str} : Goes (Its x) H1 x.cps.size fun i v _ => ∃ c, x.cps[i]? = some c ∧ v = .str ⟨#[c]⟩ where
  go := fun i H' hi e => hi
  yld := fun i H' v H'' hi e ⟨eq, hx⟩ => by
    subst eq
    exact ⟨Ex.refl _, hx⟩
  stop := fun H' e => Nat.le_refl _

/-- what the first n turns give -/
def outs (out : Nat → Option V) (n : Nat) : List V := (List.range n).filterMap out
theorem outs_succ (out : Nat → Option V) (n : Nat) : outs out (n + 1) = outs out n ++ (out n).toList := by
  unfold outs
  rw [List.range_succ, List.filterMap_append]
  cases h : out n <;> simp [h]
theorem outs_len (out : Nat → Option V) (n : Nat) : (outs out n).length ≤ n := by
  unfold outs
  have := List.length_filterMap_le out (List.range n)
  rw [List.length_range] at this
  exact this
theorem outs_eq {out : Nat → Option V} {l : List V} (h : ∀ i, i < l.length → out i = l[i]?) : outs out l.length = l := by
  have : ∀ n, n ≤ l.length → outs out n = l.take n := by
    intro n
    induction n with
    | zero => intro _; rfl
    | succ n ih =>
      intro hn
      rw [outs_succ, ih (by omega), h n (by omega), List.take_add_one]
  rw [this _ (Nat.le_refl _), List.take_length]
theorem outs_len_eq {out : Nat → Option V} {l : List V} {n : Nat} (hn : n = l.length) (h : ∀ i, i < l.length → out i = l[i]?) : outs out n = l := by
  rw [hn]
  exact outs_eq h
/-- what is filtered out of a list, each item turned -/
theorem outs_filter {α : Type} {out : Nat → Option V} {l : List α} {p : α → Bool} {f : α → V} (h : ∀ i x, l[i]? = some x → out i = if p x then some (f x) else none) : outs out l.length = (l.filter p).map f := by
  have : ∀ n, n ≤ l.length → outs out n = ((l.take n).filter p).map f := by
    intro n
    induction n with
    | zero => intro _; rfl
    | succ n ih =>
      intro hn
      have hx : l[n]? = some l[n] := List.getElem?_eq_getElem (by omega)
      rw [outs_succ, ih (by omega), h n _ hx, List.take_add_one, hx, List.filter_append, List.map_append]
      cases hp : p l[n] <;> simp [hp]
  rw [this _ (Nat.le_refl _), List.take_length]
/-- the comprehension's loop -/
theorem lc_out {J : It} {H1 : Hp} {n : Nat} {Y : Nat → V → Hp → Prop} {σ : L2.St} {vs : List Nat} {g : TG} {tt : TT} {te : TE} {Q : Addr → Hp → Prop} (out : Nat → Option V) (hw : Goes J H1 n Y) (hn : n ≤ 1000000)
    (turn : ∀ i x H', i < n → Ex H1 H' → Y i x H' → ∀ R : Option V → Hp → Prop, (∀ o H4, out i = o → Ex H' H4 → R o H4) → g x (wipe σ vs) H' fun σ2 H2 => wipe σ2 vs = wipe σ vs ∧ tt σ2 H2 fun b H3 => if b = true then te σ2 H3 fun y H4 => R (some y) H4 else R none H3)
    (q : ∀ p H2, H1 p = none → Ex H1 H2 → H2 p = some (.lst (outs out n)) → Q p H2) : ∀ D, H1 D = none → ∃ W : Nat → Nat → Hp → Prop, (∃ m, W 0 m (upd H1 D (.lst []))) ∧ ∀ i m H, W i m H →
      (J.stop i H ∧ Q D H) ∨ (J.go i H ∧ ∃ Nx : Hp → Prop, (∀ H', Nx H' → ∃ m', m' < m ∧ W (i + 1) m' H') ∧ ∀ x H', J.yld i H x H' → g x (wipe σ vs) H' fun σ2 H2 => wipe σ2 vs = wipe σ vs ∧ tt σ2 H2 fun b H3 =>
        if b = true then te σ2 H3 fun y H4 => ∃ acc, H4 D = some (.lst acc) ∧ acc.length < sizeLine ∧ Nx (upd H4 D (.lst (acc ++ [y]))) else Nx H3) := by
  intro D nD
  refine ⟨fun i m H => m = n - i ∧ i ≤ n ∧ Ex H1 H ∧ H D = some (.lst (outs out i)), ⟨n, by omega, Nat.zero_le _, Ex.new nD, upd_same⟩, ?_⟩
  rintro i m H ⟨rfl, hi, e, hD⟩
  by_cases h : i < n
  · refine .inr ⟨hw.go i H h e, fun H' => Ex H1 H' ∧ H' D = some (.lst (outs out (i + 1))), fun H' ⟨e', h'⟩ => ⟨n - (i + 1), by omega, rfl, h, e', h'⟩, fun x H' hy => ?_⟩
    obtain ⟨e1, y1⟩ := hw.yld i H x H' h e hy
    refine turn i x H' h (e.trans e1) y1 (fun o H4 => match o with | some y => ∃ acc, H4 D = some (.lst acc) ∧ acc.length < sizeLine ∧ Ex H1 (upd H4 D (.lst (acc ++ [y]))) ∧ (upd H4 D (.lst (acc ++ [y]))) D = some (.lst (outs out (i + 1))) | none => Ex H1 H4 ∧ H4 D = some (.lst (outs out (i + 1)))) fun o H4 ho e4 => ?_
    have e5 : Ex H1 H4 := (e.trans e1).trans e4
    have hD4 := (e1.trans e4) D _ hD
    cases o with
    | some y =>
      refine ⟨_, hD4, Nat.lt_of_le_of_lt (outs_len out i) (Nat.lt_of_lt_of_le h (Nat.le_trans hn (by decide))), Ex.mut e5 nD, ?_⟩
      rw [upd_same, outs_succ, ho]
      rfl
    | none =>
      refine ⟨e5, ?_⟩
      rw [outs_succ, ho]
      show H4 D = some (.lst (outs out i ++ []))
      rw [List.append_nil]
      exact hD4
  · have hin : i = n := by omega
    subst hin
    exact .inl ⟨hw.stop H e, q D H nD e hD⟩
/-- .. where nothing is tested -/
theorem lc_all {J : It} {H1 : Hp} {n : Nat} {Y : Nat → V → Hp → Prop} {σ : L2.St} {vs : List Nat} {g : TG} {te : TE} {Q : Addr → Hp → Prop} (l : List V) (hl : l.length = n) (hw : Goes J H1 n Y) (hn : n ≤ 1000000)
    (turn : ∀ i x H', i < n → Ex H1 H' → Y i x H' → ∀ R : V → Hp → Prop, (∀ y H4, l[i]? = some y → Ex H' H4 → R y H4) → g x (wipe σ vs) H' fun σ2 H2 => wipe σ2 vs = wipe σ vs ∧ te σ2 H2 R)
    (q : ∀ p H2, H1 p = none → Ex H1 H2 → H2 p = some (.lst l) → Q p H2) : ∀ D, H1 D = none → ∃ W : Nat → Nat → Hp → Prop, (∃ m, W 0 m (upd H1 D (.lst []))) ∧ ∀ i m H, W i m H →
      (J.stop i H ∧ Q D H) ∨ (J.go i H ∧ ∃ Nx : Hp → Prop, (∀ H', Nx H' → ∃ m', m' < m ∧ W (i + 1) m' H') ∧ ∀ x H', J.yld i H x H' → g x (wipe σ vs) H' fun σ2 H2 => wipe σ2 vs = wipe σ vs ∧ tYes σ2 H2 fun b H3 =>
        if b = true then te σ2 H3 fun y H4 => ∃ acc, H4 D = some (.lst acc) ∧ acc.length < sizeLine ∧ Nx (upd H4 D (.lst (acc ++ [y]))) else Nx H3) := by
  refine lc_out (fun i => l[i]?) hw hn (fun i x H' hi e hy R hR => ?_) (by rw [outs_len_eq hl.symm fun i _ => rfl]; exact q)
  exact turn i x H' hi e hy (fun y H4 => R (some y) H4) fun y H4 h e4 => hR _ _ h e4

/-! ### signs -/
def bitC (b : Bool) : Nat := if b then 49 else 48
def bitsStr (bits : List Bool) : Str := ⟨(bits.map bitC).toArray⟩
theorem bitsStr_len (bits : List Bool) : (bitsStr bits).length = bits.length := by simp [bitsStr, Str.length]
theorem bits_at {bits : List Bool} {i : Int} (h0 : 0 ≤ i) (h : i < (bits.length : Int)) : atI (bitsStr bits).cps.toList i = some (bitC (bits.getD i.toNat false)) := by
  obtain ⟨n, rfl⟩ := Int.eq_ofNat_of_zero_le h0
  refine atI_nat ?_
  have h' : n < bits.length := by omega
  show (bits.map bitC).toArray.toList[n]? = _
  simp [List.getD, h']
theorem bit_one (b : Bool) : decide (V.str ⟨#[bitC b]⟩ = V.str (Str.ofString "1")) = b := by
  cases b <;> decide +kernel
end TD

/-! Data of any kind: isinstance, the empty list, places. -/
namespace TD
open PySem PySem.Spec PyProof.Rows L2
def kindOf : PyData → String
  | .none => "NoneType"
  | .bool _ => "bool"
  | .int _ => "int"
  | .str _ => "str"
  | .list _ => "list"
  | .tuple _ => "tuple"
  | .dict _ => "dict"
def isA (n : String) (d : PyData) : Bool := kindOf d == n || (n == "int" && kindOf d == "bool")
theorem isA_tab : (∀ i, isA "int" (.int i) = true) ∧ (∀ i, isA "int" (.bool i) = true) ∧ isA "int" .none = false ∧ (∀ i, isA "int" (.str i) = false) ∧ (∀ i, isA "int" (.list i) = false) ∧ (∀ i, isA "int" (.tuple i) = false) ∧
    (∀ i, isA "bool" (.int i) = false) ∧ (∀ i, isA "bool" (.bool i) = true) ∧ isA "bool" .none = false ∧ (∀ i, isA "bool" (.str i) = false) ∧ (∀ i, isA "bool" (.list i) = false) ∧ (∀ i, isA "bool" (.tuple i) = false) ∧
    (∀ i, isA "str" (.int i) = false) ∧ (∀ i, isA "str" (.bool i) = false) ∧ isA "str" .none = false ∧ (∀ i, isA "str" (.str i) = true) ∧ (∀ i, isA "str" (.list i) = false) ∧ (∀ i, isA "str" (.tuple i) = false) ∧
    (∀ i, isA "list" (.int i) = false) ∧ (∀ i, isA "list" (.bool i) = false) ∧ isA "list" .none = false ∧ (∀ i, isA "list" (.str i) = false) ∧ (∀ i, isA "list" (.list i) = true) ∧ (∀ i, isA "list" (.tuple i) = false) ∧
    (∀ i, isA "tuple" (.int i) = false) ∧ (∀ i, isA "tuple" (.bool i) = false) ∧ isA "tuple" .none = false ∧ (∀ i, isA "tuple" (.str i) = false) ∧ (∀ i, isA "tuple" (.list i) = false) ∧ (∀ i, isA "tuple" (.tuple i) = true) := by
  simp [isA, kindOf]
theorem dp_ty {K : PySem.W.Frag} {H : Hp} {v : V} {d : PyData} (h : Dp K H v d) : TyX K H v (.type (kindOf d)) := by
  cases h with
  | non => exact .base .non
  | bl b => exact .base (.bl b)
  | int i => exact .base (.int i)
  | str x => exact .base (.str x)
  | lst h a =>
    rcases h with (h | ⟨o, h⟩) | ⟨o, its, n, e, c, _⟩
    · exact .base (.lst h)
    · exact .base (.frz h)
    · exact .kList e c
  | tup h a =>
    rcases h with (h | ⟨o, h⟩) | ⟨o, its, n, e, c, _⟩
    · exact .base (.tup h)
    · exact .fTuple h
    · exact .kTuple e c
theorem kit_all : ∀ k ∈ ["NoneType", "bool", "int", "str", "list", "tuple", "dict"], ∀ n ∈ ["int", "bool", "str", "list", "tuple"], kitB k n = some (k == n || (n == "int" && k == "bool")) := by decide +kernel
theorem kit_isA {n : String} {d : PyData} (hn : (n == "int" || n == "bool" || n == "str" || n == "list" || n == "tuple") = true) : kitB (kindOf d) n = some (isA n d) := by
  have hn : n ∈ ["int", "bool", "str", "list", "tuple"] := by simpa [or_assoc] using hn
  refine kit_all (kindOf d) ?_ n hn
  cases d <;> simp [kindOf]
def rIsiD (K : PySem.W.Frag) : List V → Hp → VK → Prop := fun xs H Q => ∃ (x : V) (n : String) (d : PyData), xs = [x, .ty n] ∧ Dp K H x d ∧ (n == "int" || n == "bool" || n == "str" || n == "list" || n == "tuple") = true ∧ Q (.bl (isA n d)) H
theorem isiD {X : Cx} {K : PySem.W.Frag} (h : X.K = K) : CallR X (.builtin "isinstance") (rIsiD K) := by
  subst h
  intro pins s σ H xs us Q I r ⟨x, n, d, e, hd, hn, q⟩
  refine call_isi pins s σ H xs us Q I r ⟨x, .ty n, .type (kindOf d), .type n, isA n d, e, .ty n, dp_ty hd, ?_, q⟩
  exact kit_ty (kit_isA hn)
/-- isinstance(x, (a, b)) -/
def rIsiD2 (K : PySem.W.Frag) : List V → Hp → VK → Prop := fun xs H Q => ∃ (x : V) (tp : Addr) (n m : String) (d : PyData), xs = [x, .ref tp] ∧ H tp = some (.tup [.ty n, .ty m]) ∧ Dp K H x d ∧ (n == "int" || n == "bool" || n == "str" || n == "list" || n == "tuple") = true ∧
  (m == "int" || m == "bool" || m == "str" || m == "list" || m == "tuple") = true ∧ Q (.bl (isA n d || isA m d)) H
theorem isiD2 {X : Cx} {K : PySem.W.Frag} (h : X.K = K) : CallR X (.builtin "isinstance") (rIsiD2 K) := by
  subst h
  intro pins s σ H xs us Q I r ⟨x, tp, n, m, d, e, ht, hd, hn, hm, q⟩
  refine call_isiT pins s σ H xs us Q I r ⟨x, tp, [.ty n, .ty m], .type (kindOf d), [.type n, .type m], isA n d || isA m d, e, ht, .cons (.ty n) (.cons (.ty m) .nil), dp_ty hd, ?_, q⟩
  refine kitAny_cons (kit_ty (kit_isA hn)) (fun h => ?_) (fun h => by rw [h]; rfl)
  rw [h, Bool.false_or]
  exact kitAny_cons (kit_ty (kit_isA hm)) (fun h => by rw [h]; exact kitAny_nil) (fun h => h)
/-! ### a list of data against the empty one -/
def tNilD (K : PySem.W.Frag) (ta : TE) : TE := fun σ H Q => ta σ H fun x H1 => ∃ (a : Addr) (ds : List PyData), x = .ref a ∧ Dp K H1 x (.list ds) ∧ SeqAt.shaped (.list ds) = true ∧ nE H1 fun H2 => Q (.bl ds.isEmpty) H2
def tConsD (K : PySem.W.Frag) (ta : TE) : TE := fun σ H Q => ta σ H fun x H1 => ∃ (a : Addr) (ds : List PyData), x = .ref a ∧ Dp K H1 x (.list ds) ∧ SeqAt.shaped (.list ds) = true ∧ nE H1 fun H2 => Q (.bl (!ds.isEmpty)) H2
theorem eqv_nil (ds : List PyData) : PyData.eqv (.list ds) (.list []) = ds.isEmpty := by
  cases ds <;> simp [PyData.eqv, PyData.eqvAll]
theorem eqv_nilT (ds : List PyData) : PyData.eqv (.tuple ds) (.tuple []) = ds.isEmpty := by
  cases ds <;> simp [PyData.eqv, PyData.eqvAll]
theorem shaped_nil : SeqAt.shaped (.list []) = true := by decide +kernel
section
variable {X : Cx} {K : PySem.W.Frag} {a : Expr} {ta : TE} {p1 pos : Pos}
theorem eqNilD (h : X.K = K) (hu : X.A.units + 64 < cLine) (ha : PE X a ta) : PC X .Eq a (.List [] p1) (tNilD K ta) := by
  subst h
  refine ⟨fun pins s σ H Q I h => thn (ha.run pins s σ H _ I h) fun v s1 ⟨x, H1, I1, r1, l, ds, ex, hd, hs, q⟩ => ?_⟩
  refine thn ((pe_lst pa_nil).run pins s1 σ H1 (fun y H2 => ∃ n, y = .ref n ∧ H1 n = none ∧ H2 = upd H1 n (.lst [])) I1 ⟨Nat.zero_le _, fun n nn => ⟨n, rfl, nn, rfl⟩⟩) fun u s2 ⟨y, H2, I2, r2, n, ey, nn, eH⟩ => ?_
  subst ex ey eH
  exact op_eqD hu pins s2 σ _ _ _ _ _ Q I2 r1 r2 ⟨_, .list [], (Ex.new nn).dp hd, .lst (SqL.of upd_same) .nil, hs, shaped_nil, by rw [eqv_nil]; exact q _ (Ex.new nn)⟩
theorem neNilD (h : X.K = K) (hu : X.A.units + 64 < cLine) (ha : PE X a ta) : PC X .NotEq a (.List [] p1) (tConsD K ta) := by
  subst h
  refine ⟨fun pins s σ H Q I h => thn (ha.run pins s σ H _ I h) fun v s1 ⟨x, H1, I1, r1, l, ds, ex, hd, hs, q⟩ => ?_⟩
  refine thn ((pe_lst pa_nil).run pins s1 σ H1 (fun y H2 => ∃ n, y = .ref n ∧ H1 n = none ∧ H2 = upd H1 n (.lst [])) I1 ⟨Nat.zero_le _, fun n nn => ⟨n, rfl, nn, rfl⟩⟩) fun u s2 ⟨y, H2, I2, r2, n, ey, nn, eH⟩ => ?_
  subst ex ey eH
  exact op_neD hu pins s2 σ _ _ _ _ _ Q I2 r1 r2 ⟨_, .list [], (Ex.new nn).dp hd, .lst (SqL.of upd_same) .nil, hs, shaped_nil, by rw [eqv_nil]; exact q _ (Ex.new nn)⟩
end
/-! ### shapes -/
theorem shaped_iff {d : PyData} : SeqAt.shaped d = true ↔ PyData.canLay0 d = true ∧ PyData.depth d ≤ 64 := by
  unfold SeqAt.shaped
  rw [Bool.and_eq_true, decide_eq_true_eq]
theorem shaped_cons {d : PyData} {ds : List PyData} (h : SeqAt.shaped (.tuple (d :: ds)) = true) : SeqAt.shaped d = true ∧ SeqAt.shaped (.tuple ds) = true := by
  rw [shaped_iff] at h ⊢
  rw [shaped_iff]
  simp only [PyData.canLay0, PyData.canLayAll0, PyData.depth, PyData.depthAll, Bool.and_eq_true] at h ⊢
  obtain ⟨⟨h1, h2⟩, h3⟩ := h
  exact ⟨⟨h1, by omega⟩, h2, by omega⟩
theorem shaped_of_mem {ds : List PyData} (h : SeqAt.shaped (.tuple ds) = true) : ∀ d ∈ ds, SeqAt.shaped d = true := by
  induction ds with
  | nil => intro d hd; cases hd
  | cons e r ih =>
    intro d hd
    have h2 := shaped_cons h
    rcases List.mem_cons.mp hd with rfl | hd
    · exact h2.1
    · exact ih h2.2 d hd
theorem canLayAll_mem : ∀ {ds : List PyData}, (∀ d ∈ ds, PyData.canLay0 d = true) → PyData.canLayAll0 ds = true
  | [], _ => by simp [PyData.canLayAll0]
  | d :: ds, h => by
    rw [PyData.canLayAll0, h d List.mem_cons_self, canLayAll_mem fun e he => h e (List.mem_cons_of_mem _ he)]
    rfl
theorem depthAll_mem {n : Nat} : ∀ {ds : List PyData}, (∀ d ∈ ds, PyData.depth d ≤ n) → PyData.depthAll ds ≤ n
  | [], _ => by simp [PyData.depthAll]
  | d :: ds, h => by
    rw [PyData.depthAll]
    have h1 := h d List.mem_cons_self
    have h2 := depthAll_mem fun e he => h e (List.mem_cons_of_mem _ he)
    omega
theorem shaped_of {ds : List PyData} (h : ∀ d ∈ ds, PyData.canLay0 d = true ∧ PyData.depth d ≤ 63) : SeqAt.shaped (.list ds) = true ∧ SeqAt.shaped (.tuple ds) = true := by
  rw [shaped_iff, shaped_iff]
  simp only [PyData.canLay0, PyData.depth]
  have h1 := canLayAll_mem fun d hd => (h d hd).1
  have h2 := depthAll_mem fun d hd => (h d hd).2
  exact ⟨⟨h1, by omega⟩, h1, by omega⟩
/-! ### places -/
theorem dpAll_len {K : PySem.W.Frag} {H : Hp} {vs : List V} {ds : List PyData} (h : DpAll K H vs ds) : vs.length = ds.length := by
  induction vs generalizing ds with
  | nil => cases h; rfl
  | cons v vs ih =>
    cases h with
    | cons a b => rw [List.length_cons, List.length_cons, ih b]
theorem dpAll_at {K : PySem.W.Frag} {H : Hp} {vs : List V} {ds : List PyData} (h : DpAll K H vs ds) : ∀ i, i < ds.length → ∃ v d, vs[i]? = some v ∧ ds[i]? = some d ∧ Dp K H v d := by
  induction vs generalizing ds with
  | nil => cases h; intro i hi; cases hi
  | cons v vs ih =>
    cases h with
    | cons a b =>
      intro i hi
      cases i with
      | zero => exact ⟨v, _, rfl, rfl, a⟩
      | succ i =>
        rw [List.length_cons] at hi
        exact ih b i (by omega)
theorem dpAll_app {K : PySem.W.Frag} {H : Hp} {vs us : List V} {ds es : List PyData} (h : DpAll K H vs ds) (g : DpAll K H us es) : DpAll K H (vs ++ us) (ds ++ es) := by
  induction vs generalizing ds with
  | nil => cases h; exact g
  | cons v vs ih =>
    cases h with
    | cons a b => exact .cons a (ih b)
theorem dpAll_snoc {K : PySem.W.Frag} {H : Hp} {vs : List V} {ds : List PyData} {d : PyData} (h : DpAll K H vs (ds ++ [d])) : ∃ us v, vs = us ++ [v] ∧ DpAll K H us ds ∧ Dp K H v d := by
  induction ds generalizing vs with
  | nil =>
    cases h with
    | cons a b =>
      cases b
      exact ⟨[], _, rfl, .nil, a⟩
  | cons e r ih =>
    cases h with
    | cons a b =>
      obtain ⟨us, v, rfl, g, x⟩ := ih b
      exact ⟨_ :: us, v, rfl, .cons a g, x⟩
/-! ### what is_beat looks at -/
def isWhole (lo hi : Int) : PyData → Bool
  | .int i => decide (lo ≤ i) && decide (i ≤ hi)
  | _ => false
def signOk (c : Nat) : Bool := c == 48 || c == 49
def areSigns : PyData → Bool
  | .str s => decide (1 ≤ s.length) && decide (s.length ≤ 12) && s.cps.toList.all signOk
  | _ => false
def intD : PyData → Int
  | .int i => i
  | _ => 0
def isWord (s : Str) (d : PyData) : Bool := PyData.eqv d (.str s)
def atD (ds : List PyData) (i : Nat) : PyData := ds.getD i .none
def isEvery (ds : List PyData) : Bool := isWhole 1 12 (atD ds 1) && isWhole 0 (intD (atD ds 1) - 1) (atD ds 2)
def flatD : PyData → Bool
  | .none | .bool _ | .int _ | .str _ => true
  | _ => false
def innerT (ds : List PyData) : Option (List PyData) :=
    if ds.isEmpty then none
    else if isWord "source" (atD ds 0) && decide (ds.length = 1) then some []
    else if isWord "every" (atD ds 0) && decide (ds.length = 4) && isEvery ds then some [atD ds 3]
    else if isWord "gate" (atD ds 0) && decide (ds.length = 3) && areSigns (atD ds 1) then some [atD ds 2]
    else if isWord "later" (atD ds 0) && decide (ds.length = 3) && isWhole 0 99 (atD ds 1) then some [atD ds 2]
    else if (isWord "either" (atD ds 0) || isWord "both" (atD ds 0) || isWord "but" (atD ds 0)) && decide (ds.length = 3) then some [atD ds 1, atD ds 2]
    else if isWord "led" (atD ds 0) && decide (ds.length = 5) && isWhole 0 9999 (atD ds 2) && isWhole 0 9999 (atD ds 4) then some [atD ds 1, atD ds 3]
    else none
def innerOf : PyData → Option (List PyData)
  | .tuple ds => innerT ds
  | _ => none
def headFlat : PyData → Bool
  | .tuple (w :: _) => flatD w
  | _ => true
theorem dpAll_atD {K : PySem.W.Frag} {H : Hp} {vs : List V} {ds : List PyData} (h : DpAll K H vs ds) (i : Nat) (hi : i < ds.length) : ∃ v, atI vs (i : Int) = some v ∧ Dp K H v (atD ds i) := by
  obtain ⟨v, d, h1, h2, h3⟩ := dpAll_at h i hi
  refine ⟨v, atI_nat h1, ?_⟩
  unfold TD.atD
  rw [List.getD_eq_getElem?_getD, h2]
  exact h3
theorem flat_of {K : PySem.W.Frag} {H : Hp} {v : V} {d : PyData} (h : Dp K H v d) (f : flatD d = true) : flatV v = true := by
  cases h <;> first | rfl | cases f
theorem eqV_str {K : PySem.W.Frag} {H : Hp} {v : V} {d : PyData} (h : Dp K H v d) (s : Str) : eqV (.str s) v = isWord s d := by
  unfold isWord
  cases h with
  | str x =>
    show (decide (s = x) : Bool) = _
    rw [PyData.eqv]
    by_cases e : s = x
    · simp [e]
    · simp [e, Ne.symm e]
  | _ => rw [PyData.eqv]; rfl
theorem inV_three {K : PySem.W.Frag} {H : Hp} {v : V} {d : PyData} (h : Dp K H v d) (a b c : Str) : inV v [.str a, .str b, .str c] = (isWord a d || isWord b d || isWord c d) := by
  unfold inV
  simp only [List.any_cons, List.any_nil, Bool.or_false, eqV_str h, Bool.or_assoc]
end TD
namespace TD
open PySem PySem.Spec PyProof.Rows L2
/-! ### a subscript of a list or a tuple -/
theorem ixlt {X : Cx} {K : PySem.W.Frag} (h : X.K = K) : IxR X (fun x y H Q => rIxL K x y H Q ∨ rIxT K x y H Q) := by subst h; exact ix_list.or ix_tup
/-! ### noughts -/
def rMulZ : R2 := fun x y H Q => ∃ n : Int, x = .str "0" ∧ y = .int n ∧ 0 ≤ n ∧ n ≤ 1000 ∧ Q (.str (bitsStr (List.replicate n.toNat false))) H
theorem zeros_fold (n : Nat) : (List.replicate n (Str.ofString "0").cps).foldl (· ++ ·) #[] = ((List.replicate n false).map bitC).toArray := by
  have h : ∀ (n : Nat) (acc : Array Nat), (List.replicate n (Str.ofString "0").cps).foldl (· ++ ·) acc = acc ++ ((List.replicate n false).map bitC).toArray := by
    intro n
    induction n with
    | zero => intro acc; simp
    | succ n ih =>
      intro acc
      rw [List.replicate_succ, List.foldl_cons, ih, show (Str.ofString "0").cps = #[48] by decide +kernel]
      apply Array.ext'
      simp [List.replicate_succ, bitC]
  rw [h n #[]]
  simp
theorem mulStr {X : Cx} : OpR X (binaryOp .Mult) rMulZ := by
  intro pins s σ H x y v u Q I rx ry ⟨n, ex, ey, h0, h1, q⟩
  subst ex ey
  obtain ⟨t, rfl⟩ := rx
  obtain ⟨t', rfl⟩ := ry
  have hl : (Str.ofString "0").length = 1 := by decide +kernel
  refine P.mul_str (by rw [decide_eq_false (show ¬ n < -(2 ^ 63 : Int) by omega), decide_eq_false (show ¬ n ≥ 2 ^ 63 by omega)]; rfl) (fun h2 _ => ?_) (fun _ _ => ?_) ?_
  · rw [hl]
    have : 1000 ≤ (2 ^ 63 - 1) / n := by
      refine Int.le_ediv_of_mul_le (by omega) ?_
      omega
    omega
  · rw [hl]
    unfold Builtin.Str.tooLong
    refine decide_eq_false ?_
    rw [sizeLine_eq]
    omega
  · by_cases h2 : n < 1
    · rw [if_pos h2]
      have : n = 0 := by omega
      subst this
      exact ⟨by decide, ⟨.str Str.empty, H, I.tok _, ⟨_, rfl⟩, q⟩⟩
    · rw [if_neg h2]
      by_cases h3 : (n == 1 || (Str.ofString "0").length == 0) = true
      · rw [if_pos h3]
        have : n = 1 := by
          rw [hl] at h3
          simpa using h3
        subst this
        refine ⟨.str (Str.ofString "0"), H, I, ⟨_, rfl⟩, ?_⟩
        have e : Str.ofString "0" = bitsStr (List.replicate (Int.toNat 1) false) := by decide +kernel
        rw [e]
        exact q
      · rw [if_neg h3]
        have e : (⟨(List.replicate n.toNat (Str.ofString "0").cps).foldl (· ++ ·) #[]⟩ : Str) = bitsStr (List.replicate n.toNat false) := by
          rw [zeros_fold]
          rfl
        rw [e]
        refine ⟨?_, ⟨.str (bitsStr (List.replicate n.toNat false)), H, I.tok _, ⟨_, rfl⟩, q⟩⟩
        rw [bitsStr_len, List.length_replicate]
        exact Nat.le_trans (show n.toNat ≤ 1000 by omega) (by decide)
end TD
namespace TD
open PySem PySem.Spec PyProof.Rows L2 TL
/-! ### signs put together -/
theorem joinL_nil : ∀ l : List (List Nat), joinL [] l = l.flatten
  | [] => rfl
  | [p] => by simp [joinL]
  | p :: q :: r => by
    rw [joinL, joinL_nil (q :: r)]
    simp
theorem join_bits (bits : List Bool) : Txt.join (Str.ofString "") (bits.map fun b => (⟨#[bitC b]⟩ : Str)) = bitsStr bits := by
  have e : tl (Txt.join (Str.ofString "") (bits.map fun b => (⟨#[bitC b]⟩ : Str))) = bits.map bitC := by
    rw [join_eq, tl_join, show tl (Str.ofString "") = [] by decide +kernel, joinL_nil]
    induction bits with
    | nil => rfl
    | cons b r ih =>
      simp only [List.map_cons, List.flatten_cons, ih]
      rfl
  generalize Txt.join (Str.ofString "") (bits.map fun b => (⟨#[bitC b]⟩ : Str)) = x at e
  obtain ⟨c⟩ := x
  unfold bitsStr
  rw [← e]
theorem strs_sum (bits : List Bool) : ((bits.map fun b => (⟨#[bitC b]⟩ : Str)).map (·.length)).sum = bits.length := by
  induction bits with
  | nil => rfl
  | cons b r ih =>
    simp only [List.map_cons, List.sum_cons, List.length_cons, ih]
    show 1 + _ = _
    omega
/-- a stock stands there: pairs -/
def StkAt (K : PySem.W.Frag) (H : Hp) (v : V) (st : List (Int × Int)) : Prop := ∃ (a : Addr) (ps : List Addr), v = .ref a ∧ SqL K H a (ps.map V.ref) ∧ ps.length = st.length ∧ ∀ (i : Nat) (p : Addr) (r : Int × Int), ps[i]? = some p → st[i]? = some r → SqT K H p [.int r.1, .int r.2]
theorem StkAt.ext {K : PySem.W.Frag} {H H' : Hp} {v : V} {st : List (Int × Int)} (h : StkAt K H v st) (e : Ex H H') : StkAt K H' v st := by
  obtain ⟨a, ps, ev, hs, hl, hr⟩ := h
  exact ⟨a, ps, ev, e.sqL hs, hl, fun i p r h1 h2 => e.sqT (hr i p r h1 h2)⟩
end TD
namespace TD
open PySem PySem.Spec PyProof.Rows L2
/-! ### beats as data -/
def Two.word : Two → Str
  | .either => "either"
  | .both => "both"
  | .but => "but"
def Beat.data : Beat → PyData
  | .source => .tuple [.str "source"]
  | .every n k b => .tuple [.str "every", .int (n : Int), .int (k : Int), b.data]
  | .gate bits b => .tuple [.str "gate", .str (bitsStr bits), b.data]
  | .later m b => .tuple [.str "later", .int (m : Int), b.data]
  | .two w a b => .tuple [.str w.word, a.data, b.data]
  | .led a many b first => .tuple [.str "led", a.data, .int (many : Int), b.data, .int (first : Int)]
def gateOf (r : Int × Int) (b : Beat) : Beat := .gate (evenBits r.1.toNat r.2.toNat) b
def gates (st : List (Int × Int)) (ns : List Int) : Beat := ns.foldl (fun b n => gateOf (st.getD n.toNat (0, 0)) b) .source
end TD
namespace TD
open PySem PySem.Spec PyProof.Rows L2
/-- a comprehension whose turns give what is only known to be some p -/
theorem lc_pick {J : It} {H1 : Hp} {n : Nat} {Y : Nat → V → Hp → Prop} {σ : L2.St} {vs : List Nat} {g : TG} {te : TE} {Q : Addr → Hp → Prop} (p : V → Prop) (hw : Goes J H1 n Y) (hn : n ≤ 1000000)
    (turn : ∀ i x H', i < n → Ex H1 H' → Y i x H' → ∀ R : V → Hp → Prop, (∀ y H4, p y → Ex H' H4 → R y H4) → g x (wipe σ vs) H' fun σ2 H2 => wipe σ2 vs = wipe σ vs ∧ te σ2 H2 R)
    (q : ∀ a H2 xs, H1 a = none → Ex H1 H2 → xs.length = n → (∀ x ∈ xs, p x) → H2 a = some (.lst xs) → Q a H2) : ∀ D, H1 D = none → ∃ W : Nat → Nat → Hp → Prop, (∃ m, W 0 m (upd H1 D (.lst []))) ∧ ∀ i m H, W i m H →
      (J.stop i H ∧ Q D H) ∨ (J.go i H ∧ ∃ Nx : Hp → Prop, (∀ H', Nx H' → ∃ m', m' < m ∧ W (i + 1) m' H') ∧ ∀ x H', J.yld i H x H' → g x (wipe σ vs) H' fun σ2 H2 => wipe σ2 vs = wipe σ vs ∧ tYes σ2 H2 fun b H3 =>
        if b = true then te σ2 H3 fun y H4 => ∃ acc, H4 D = some (.lst acc) ∧ acc.length < sizeLine ∧ Nx (upd H4 D (.lst (acc ++ [y]))) else Nx H3) := by
  intro D nD
  refine ⟨fun i m H => m = n - i ∧ i ≤ n ∧ Ex H1 H ∧ ∃ acc : List V, H D = some (.lst acc) ∧ acc.length = i ∧ ∀ x ∈ acc, p x, ⟨n, by omega, Nat.zero_le _, Ex.new nD, [], upd_same, rfl, fun x hx => (nomatch hx)⟩, ?_⟩
  rintro i m H ⟨rfl, hi, e, acc, hD, hl, hp⟩
  by_cases h : i < n
  · refine .inr ⟨hw.go i H h e, fun H' => Ex H1 H' ∧ ∃ acc : List V, H' D = some (.lst acc) ∧ acc.length = i + 1 ∧ ∀ x ∈ acc, p x, fun H' ⟨e', a', h', l', p'⟩ => ⟨n - (i + 1), by omega, rfl, h, e', a', h', l', p'⟩, fun x H' hy => ?_⟩
    obtain ⟨e1, y1⟩ := hw.yld i H x H' h e hy
    refine turn i x H' h (e.trans e1) y1 (fun y H4 => ∃ acc, H4 D = some (.lst acc) ∧ acc.length < sizeLine ∧ Ex H1 (upd H4 D (.lst (acc ++ [y]))) ∧ ∃ acc' : List V, (upd H4 D (.lst (acc ++ [y]))) D = some (.lst acc') ∧ acc'.length = i + 1 ∧ ∀ x ∈ acc', p x) fun y H4 hy e4 => ?_
    have e5 : Ex H1 H4 := (e.trans e1).trans e4
    have hD4 := (e1.trans e4) D _ hD
    refine ⟨acc, hD4, Nat.lt_of_le_of_lt (Nat.le_of_eq hl) (Nat.lt_of_lt_of_le h (Nat.le_trans hn (by decide))), Ex.mut e5 nD, acc ++ [y], upd_same, by rw [List.length_append, hl]; rfl, fun x hx => ?_⟩
    rcases List.mem_append.mp hx with hx | hx
    · exact hp x hx
    · rw [List.mem_singleton.mp hx]
      exact hy
  · have hin : i = n := by omega
    subst hin
    exact .inl ⟨hw.stop H e, q D H acc nD e hl hp hD⟩
theorem ints_of {p : Int → Prop} : ∀ {xs : List V}, (∀ x ∈ xs, ∃ r, x = .int r ∧ p r) → ∃ ns : List Int, xs = ns.map V.int ∧ ∀ r ∈ ns, p r
  | [], _ => ⟨[], rfl, fun r hr => (nomatch hr)⟩
  | x :: xs, h => by
    obtain ⟨r, rfl, hr⟩ := h x List.mem_cons_self
    obtain ⟨ns, rfl, hn⟩ := ints_of fun y hy => h y (List.mem_cons_of_mem _ hy)
    exact ⟨r :: ns, rfl, fun s hs => by
      rcases List.mem_cons.mp hs with rfl | hs
      · exact hr
      · exact hn s hs⟩
end TD

/-! Forms: what stays true of them, in plain Lean. -/
namespace TD

/-! ### lists of ints -/
theorem asc_len : ∀ {l : List Int} {lo hi : Int}, l.Pairwise (· < ·) → (∀ x ∈ l, lo ≤ x ∧ x < hi) → lo ≤ hi → (l.length : Int) ≤ hi - lo
  | [], lo, hi, _, _, h => by simp; omega
  | x :: r, lo, hi, h, hb, hlh => by
    obtain ⟨h1, h2⟩ := List.pairwise_cons.mp h
    have hx := hb x List.mem_cons_self
    have := asc_len (l := r) (lo := x + 1) (hi := hi) h2 (fun y hy => ⟨h1 y hy, (hb y (List.mem_cons_of_mem _ hy)).2⟩) (by omega)
    rw [List.length_cons]
    omega
theorem getD_eq {l : List Int} {i : Nat} (h : i < l.length) : l.getD i 0 = l[i] := by
  rw [List.getD_eq_getElem?_getD, List.getElem?_eq_getElem h]
  rfl
theorem getD_mem {l : List Int} {i : Nat} (h : i < l.length) : l.getD i 0 ∈ l := by
  rw [getD_eq h]
  exact List.getElem_mem _
theorem headD_eq {l : List Int} : l.headD 0 = l.getD 0 0 := by cases l <;> rfl
theorem lastD_eq {l : List Int} (h : l ≠ []) : l.getLastD 0 = l.getD (l.length - 1) 0 := by
  rw [List.getLastD_eq_getLast?, List.getLast?_eq_getElem?, List.getD_eq_getElem?_getD]
theorem asc_get {l : List Int} (h : l.Pairwise (· < ·)) {i j : Nat} (hij : i < j) (hj : j < l.length) : l.getD i 0 < l.getD j 0 := by
  rw [getD_eq hj, getD_eq (by omega)]
  exact List.pairwise_iff_getElem.mp h i j (by omega) hj hij

/-! ### the ticks of a round -/
def rt (t : List Int) (len : Int) (i : Nat) : Int := t.getD (i % t.length) 0 + ((i / t.length : Nat) : Int) * len
theorem gaps_len {t : List Int} {len : Int} : (gapsRound t len).length = t.length := by
  unfold gapsRound
  rw [List.length_zipWith]
  cases t <;> simp
theorem gaps_get {t : List Int} {len : Int} {r : Nat} (h : r < t.length) : (gapsRound t len).getD r 0 = (if r + 1 < t.length then t.getD (r + 1) 0 else t.headD 0 + len) - t.getD r 0 := by
  unfold gapsRound
  rw [List.getD_eq_getElem?_getD, List.getElem?_zipWith, List.getElem?_eq_getElem h]
  have e : (t.tail ++ [t.headD 0 + len])[r]? = some (if r + 1 < t.length then t.getD (r + 1) 0 else t.headD 0 + len) := by
    cases t with
    | nil => cases h
    | cons x t =>
      show (t ++ [x + len])[r]? = _
      rw [List.getElem?_append]
      by_cases hr : r < t.length
      · rw [if_pos hr, if_pos (by rw [List.length_cons]; omega), List.getElem?_eq_getElem hr]
        show _ = some ((x :: t).getD (r + 1) 0)
        rw [getD_eq (by rw [List.length_cons]; omega)]
        rfl
      · have : r = t.length := by rw [List.length_cons] at h; omega
        rw [if_neg hr, if_neg (by rw [List.length_cons]; omega), this, Nat.sub_self]
        rfl
  rw [e, getD_eq h]
  rfl
theorem rt_lt {t : List Int} {len : Int} {i : Nat} (h : i < t.length) : rt t len i = t.getD i 0 := by
  unfold rt
  rw [Nat.mod_eq_of_lt h, Nat.div_eq_of_lt h]
  simp
theorem rt_succ {t : List Int} {len : Int} (ht : t ≠ []) (i : Nat) : rt t len (i + 1) = rt t len i + (gapsRound t len).getD (i % t.length) 0 := by
  have hn : 0 < t.length := List.length_pos_iff.mpr ht
  have hr : i % t.length < t.length := Nat.mod_lt _ hn
  rw [gaps_get hr]
  unfold rt
  by_cases h : i % t.length + 1 < t.length
  · rw [if_pos h]
    have e1 : (i + 1) % t.length = i % t.length + 1 := by rw [Nat.add_mod, Nat.mod_eq_of_lt (show 1 < t.length by omega), Nat.mod_eq_of_lt h]
    have e2 : (i + 1) / t.length = i / t.length := by
      rw [Nat.succ_div, if_neg]
      · rfl
      · intro hd
        have := Nat.mod_eq_zero_of_dvd hd
        omega
    rw [e1, e2]
    omega
  · rw [if_neg h]
    have hq : i % t.length + 1 = t.length := by omega
    have hd : t.length ∣ i + 1 := by
      refine Nat.dvd_of_mod_eq_zero ?_
      rw [Nat.add_mod]
      by_cases h1 : t.length = 1
      · rw [h1]; omega
      · rw [Nat.mod_eq_of_lt (show 1 < t.length by omega), hq, Nat.mod_self]
    have e1 : (i + 1) % t.length = 0 := Nat.mod_eq_zero_of_dvd hd
    have e2 : (i + 1) / t.length = i / t.length + 1 := by rw [Nat.succ_div, if_pos hd]
    rw [e1, e2, headD_eq]
    generalize i / t.length = q
    have : ((q + 1 : Nat) : Int) * len = (q : Int) * len + len := by
      rw [show ((q + 1 : Nat) : Int) = (q : Int) + 1 by omega, Int.add_mul]
      omega
    omega

/-- a round that can be: rising, the last ahead of the next first -/
structure Rnd (t : List Int) (len : Int) : Prop where
  asc : t.Pairwise (· < ·)
  pos : 0 < len
  last : t.getLastD 0 < t.headD 0 + len
theorem gap_pos {t : List Int} {len : Int} (R : Rnd t len) {r : Nat} (h : r < t.length) : 0 < (gapsRound t len).getD r 0 := by
  rw [gaps_get h]
  split
  · have := asc_get R.asc (show r < r + 1 by omega) (by assumption)
    omega
  · have hr : r = t.length - 1 := by omega
    have := R.last
    rw [lastD_eq (fun z => by rw [z] at h; cases h), ← hr] at this
    omega
theorem rt_mono1 {t : List Int} {len : Int} (R : Rnd t len) (ht : t ≠ []) (i : Nat) : rt t len i < rt t len (i + 1) := by
  rw [rt_succ ht]
  have := gap_pos R (Nat.mod_lt i (List.length_pos_iff.mpr ht))
  omega
theorem rt_mono {t : List Int} {len : Int} (R : Rnd t len) (ht : t ≠ []) {i j : Nat} (h : i < j) : rt t len i < rt t len j := by
  induction j with
  | zero => cases h
  | succ j ih =>
    have := rt_mono1 R ht j
    by_cases e : i = j
    · rw [e]; exact this
    · have := ih (by omega)
      omega
theorem rt_mul {t : List Int} {len : Int} (ht : t ≠ []) (i k : Nat) : rt t len (i + k * t.length) = rt t len i + (k : Int) * len := by
  have hn : 0 < t.length := List.length_pos_iff.mpr ht
  unfold rt
  rw [Nat.add_mul_mod_self_right, Nat.add_mul_div_right _ _ hn]
  rw [show ((i / t.length + k : Nat) : Int) = ((i / t.length : Nat) : Int) + (k : Int) by omega, Int.add_mul]
  omega

/-! ### a part of the gaps that comes again and again -/
theorem flat_get {α : Type} (l : List α) : ∀ (k i : Nat), i < k * l.length → (List.replicate k l).flatten[i]? = l[i % l.length]?
  | 0, i, h => by simp at h
  | k + 1, i, h => by
    rw [List.replicate_succ, List.flatten_cons, List.getElem?_append]
    by_cases hi : i < l.length
    · rw [if_pos hi, Nat.mod_eq_of_lt hi]
    · rw [if_neg hi, flat_get l k (i - l.length) (by rw [Nat.succ_mul] at h; omega)]
      congr 1
      conv => rhs; rw [show i = (i - l.length) + l.length by omega, Nat.add_mod_right]
structure Part (g : List Int) (m : Nat) : Prop where
  one : 1 ≤ m
  dvd : m ∣ g.length
  per : ∀ i, i < g.length → g.getD i 0 = g.getD (i % m) 0
theorem part_of {g : List Int} {m : Nat} (h1 : 1 ≤ m) (hg : g ≠ []) (h : partOk g m = true) : Part g m := by
  unfold partOk at h
  rw [Bool.and_eq_true] at h
  have hd : m ∣ g.length := Nat.dvd_of_mod_eq_zero (of_decide_eq_true h.1)
  have he := of_decide_eq_true h.2
  have hn : 0 < g.length := List.length_pos_iff.mpr hg
  have hm : m ≤ g.length := Nat.le_of_dvd hn hd
  refine ⟨h1, hd, fun i hi => ?_⟩
  have hl : (g.take m).length = m := by rw [List.length_take]; omega
  have hmul : g.length / m * m = g.length := Nat.div_mul_cancel hd
  have := flat_get (g.take m) (g.length / m) i (by rw [hl, hmul]; exact hi)
  rw [← he, hl] at this
  rw [List.getD_eq_getElem?_getD, this, List.getElem?_take, if_pos (Nat.mod_lt _ (by omega)), ← List.getD_eq_getElem?_getD]
theorem part_to {g : List Int} {m : Nat} (P : Part g m) : partOk g m = true := by
  unfold partOk
  rw [Bool.and_eq_true]
  refine ⟨decide_eq_true (Nat.mod_eq_zero_of_dvd P.dvd), decide_eq_true ?_⟩
  by_cases hg : g.length = 0
  · rw [List.length_eq_zero_iff.mp hg]; simp
  have hm : m ≤ g.length := Nat.le_of_dvd (by omega) P.dvd
  have hl : (g.take m).length = m := by rw [List.length_take]; omega
  have hmul : g.length / m * m = g.length := Nat.div_mul_cancel P.dvd
  refine List.ext_getElem? fun i => ?_
  by_cases hi : i < g.length
  · rw [flat_get _ _ i (by rw [hl, hmul]; exact hi), hl, List.getElem?_take, if_pos (Nat.mod_lt _ P.one)]
    have h1 := P.per i hi
    have h2 : i % m < g.length := Nat.lt_of_lt_of_le (Nat.mod_lt _ P.one) hm
    rw [getD_eq hi, getD_eq h2] at h1
    rw [List.getElem?_eq_getElem hi, List.getElem?_eq_getElem h2, h1]
  · rw [List.getElem?_eq_none (by omega), List.getElem?_eq_none]
    rw [List.length_flatten, List.map_replicate, List.sum_replicate_nat, hl, hmul]
    omega
theorem leastFrom_part {g : List Int} (hg : g ≠ []) : ∀ n m, 1 ≤ m → m ≤ g.length → n + m = g.length + 1 → Part g (leastFrom g n m) ∧ m ≤ leastFrom g n m ∧ ∀ k, m ≤ k → Part g k → leastFrom g n m ≤ k
  | 0, m, h1, h2, hn => by omega
  | n + 1, m, h1, h2, hn => by
    unfold leastFrom
    by_cases h : partOk g m = true
    · rw [if_pos h]
      exact ⟨part_of h1 hg h, Nat.le_refl _, fun k hk _ => hk⟩
    · rw [if_neg h]
      have hm : m < g.length := by
        rcases Nat.lt_or_ge m g.length with z | z
        · exact z
        · exfalso
          have : m = g.length := by omega
          refine h (part_to ⟨h1, by rw [this]; exact Nat.dvd_refl _, fun i hi => by rw [this, Nat.mod_eq_of_lt hi]⟩)
      obtain ⟨a, b, c⟩ := leastFrom_part hg n (m + 1) (by omega) (by omega) (by omega)
      refine ⟨a, by omega, fun k hk hp => c k ?_ hp⟩
      rcases Nat.lt_or_ge m k with z | z
      · exact z
      · exfalso
        have : k = m := by omega
        rw [this] at hp
        exact h (part_to hp)
theorem least_part {g : List Int} (hg : g ≠ []) : Part g (least g) ∧ ∀ k, Part g k → least g ≤ k := by
  obtain ⟨a, _, c⟩ := leastFrom_part hg g.length 1 (Nat.le_refl _) (List.length_pos_iff.mpr hg) (by omega)
  exact ⟨a, fun k hp => c k hp.one hp⟩
theorem sum_take {t : List Int} {len : Int} (ht : t ≠ []) : ∀ k, k ≤ t.length → ((gapsRound t len).take k).sum = rt t len k - rt t len 0
  | 0, _ => by simp
  | k + 1, h => by
    have hk : k < (gapsRound t len).length := by rw [gaps_len]; omega
    rw [List.take_add_one, List.getElem?_eq_getElem hk, List.sum_append, sum_take ht k (by omega), rt_succ ht, Nat.mod_eq_of_lt (by omega), getD_eq hk]
    simp
    omega
theorem getD_take {l : List Int} {m i : Nat} (h : i < m) : (l.take m).getD i 0 = l.getD i 0 := by
  rw [List.getD_eq_getElem?_getD, List.getElem?_take, if_pos h, ← List.getD_eq_getElem?_getD]
/-- the round of the least part has the same ticks -/
theorem rt_part {t : List Int} {len : Int} {m : Nat} (ht : t ≠ []) (P : Part (gapsRound t len) m) (i : Nat) : rt (t.take m) (((gapsRound t len).take m).sum) i = rt t len i := by
  have hn : 0 < t.length := List.length_pos_iff.mpr ht
  have hg := gaps_len (t := t) (len := len)
  have hmd : m ∣ t.length := hg ▸ P.dvd
  have hm : m ≤ t.length := Nat.le_of_dvd hn hmd
  have h1 := P.one
  rw [sum_take ht m hm]
  have hper : ∀ i, (gapsRound t len).getD (i % t.length) 0 = (gapsRound t len).getD (i % m) 0 := fun i => by
    rw [P.per (i % t.length) (by rw [hg]; exact Nat.mod_lt _ hn), Nat.mod_mod_of_dvd _ hmd]
  have step : ∀ i, rt t len (i + m) = rt t len i + (rt t len m - rt t len 0) := by
    intro i
    induction i with
    | zero => rw [Nat.zero_add]; omega
    | succ i ih =>
      rw [show i + 1 + m = (i + m) + 1 by omega, rt_succ ht, rt_succ ht, ih, hper (i + m), hper i, Nat.add_mod_right]
      omega
  have many : ∀ q r, rt t len (r + q * m) = rt t len r + (q : Int) * (rt t len m - rt t len 0) := by
    intro q r
    induction q with
    | zero => simp
    | succ q ih =>
      rw [show r + (q + 1) * m = (r + q * m) + m by rw [Nat.succ_mul]; omega, step, ih, show ((q + 1 : Nat) : Int) = (q : Int) + 1 by omega, Int.add_mul]
      omega
  have hl : (t.take m).length = m := by rw [List.length_take]; omega
  have hr : i % m < m := Nat.mod_lt _ h1
  have := many (i / m) (i % m)
  rw [show i % m + i / m * m = i by rw [Nat.mul_comm]; exact Nat.mod_add_div i m] at this
  rw [this, rt_lt (show i % m < t.length by omega)]
  unfold rt
  rw [hl, getD_take hr]
theorem rnd_part {t : List Int} {len : Int} {m : Nat} (ht : t ≠ []) (R : Rnd t len) (P : Part (gapsRound t len) m) : Rnd (t.take m) (((gapsRound t len).take m).sum) ∧ ((gapsRound t len).take m).sum ≤ len ∧ t.take m ≠ [] := by
  have hn : 0 < t.length := List.length_pos_iff.mpr ht
  have hmd : m ∣ t.length := gaps_len (t := t) (len := len) ▸ P.dvd
  have hm : m ≤ t.length := Nat.le_of_dvd hn hmd
  have h1 := P.one
  have hl : (t.take m).length = m := by rw [List.length_take]; omega
  have hne : t.take m ≠ [] := fun z => by rw [z] at hl; simp at hl; omega
  have h0 := rt_mono R ht (show 0 < m by omega)
  have hlen : rt t len t.length = rt t len 0 + len := by
    have := rt_mul (len := len) ht 0 1
    simpa using this
  refine ⟨⟨R.asc.sublist (List.take_sublist _ _), ?_, ?_⟩, ?_, hne⟩
  · rw [sum_take ht m hm]; omega
  · rw [sum_take ht m hm, lastD_eq hne, headD_eq, hl, getD_take (by omega), getD_take (by omega)]
    have := rt_mono R ht (show m - 1 < m by omega)
    rw [rt_lt (show m - 1 < t.length by omega)] at this
    rw [← rt_lt (len := len) (show 0 < t.length by omega)]
    omega
  · rw [sum_take ht m hm]
    rcases Nat.lt_or_ge m t.length with z | z
    · have := rt_mono R ht z
      omega
    · have : m = t.length := by omega
      rw [this]
      omega

/-! ### a form -/
structure WF (f : Form) : Prop where
  asc : (f.front ++ f.round).Pairwise (· < ·)
  nn : ∀ x ∈ f.front ++ f.round, 0 ≤ x
  len0 : f.round = [] → f.len = 0
  rnd : f.round ≠ [] → Rnd f.round f.len
  short : f.len ≤ 5040
/-- the i-th tick -/
def tk (f : Form) (i : Nat) : Option Int := if i < f.front.length then f.front[i]? else if f.round = [] then none else some (rt f.round f.len (i - f.front.length))
theorem tickAt_tk (f : Form) (i : Nat) : tickAt f (i : Int) = tk f i := by
  unfold tickAt tk
  by_cases h : i < f.front.length
  · rw [if_pos (by omega), if_pos h, Int.toNat_natCast]
  · rw [if_neg (by omega), if_neg h]
    by_cases hr : f.round = []
    · rw [if_pos hr, if_pos hr]
    · rw [if_neg hr, if_neg hr]
      have hn : 0 < f.round.length := List.length_pos_iff.mpr hr
      obtain ⟨k, hk⟩ : ∃ k : Nat, i = f.front.length + k := ⟨i - f.front.length, by omega⟩
      subst hk
      rw [show f.front.length + k - f.front.length = k by omega, show ((f.front.length + k : Nat) : Int) - (f.front.length : Int) = (k : Int) by omega]
      unfold rt
      have e1 : ((k : Int) % (f.round.length : Int)).toNat = k % f.round.length := by
        rw [← Int.natCast_emod, Int.toNat_natCast]
      have e2 : (k : Int) / (f.round.length : Int) = ((k / f.round.length : Nat) : Int) := by
        rw [Int.natCast_ediv]
      dsimp only
      rw [e1, e2]
theorem last_rev {x : Int} {r : List Int} : (x :: r).reverse = r.reverse ++ [x] := by simp
/-- the front's last goes over into the round -/
theorem roll_rt {t : List Int} {len x : Int} (ht : t ≠ []) (hx : x + len = t.getLastD 0) (i : Nat) : rt (x :: t.dropLast) len (i + 1) = rt t len i ∧ rt (x :: t.dropLast) len 0 = x := by
  have hn : 0 < t.length := List.length_pos_iff.mpr ht
  have hl : (x :: t.dropLast).length = t.length := by rw [List.length_cons, List.length_dropLast]; omega
  have hget : ∀ j, j + 1 < t.length → (x :: t.dropLast).getD (j + 1) 0 = t.getD j 0 := fun j hj => by
    show t.dropLast.getD j 0 = _
    rw [List.dropLast_eq_take, getD_take (by omega)]
  refine ⟨?_, ?_⟩
  · unfold rt
    rw [hl]
    have hr : i % t.length < t.length := Nat.mod_lt _ hn
    by_cases h : i % t.length + 1 < t.length
    · have e1 : (i + 1) % t.length = i % t.length + 1 := by rw [Nat.add_mod, Nat.mod_eq_of_lt (show 1 < t.length by omega), Nat.mod_eq_of_lt h]
      have e2 : (i + 1) / t.length = i / t.length := by
        rw [Nat.succ_div, if_neg]
        · rfl
        · intro hd
          have := Nat.mod_eq_zero_of_dvd hd
          omega
      rw [e1, e2, hget _ h]
    · have hq : i % t.length + 1 = t.length := by omega
      have hd : t.length ∣ i + 1 := by
        refine Nat.dvd_of_mod_eq_zero ?_
        rw [Nat.add_mod]
        by_cases h1 : t.length = 1
        · rw [h1]; omega
        · rw [Nat.mod_eq_of_lt (show 1 < t.length by omega), hq, Nat.mod_self]
      have e1 : (i + 1) % t.length = 0 := Nat.mod_eq_zero_of_dvd hd
      have e2 : (i + 1) / t.length = i / t.length + 1 := by rw [Nat.succ_div, if_pos hd]
      rw [e1, e2]
      rw [lastD_eq ht] at hx
      rw [show i % t.length = t.length - 1 by omega]
      generalize i / t.length = q
      have : ((q + 1 : Nat) : Int) * len = (q : Int) * len + len := by
        rw [show ((q + 1 : Nat) : Int) = (q : Int) + 1 by omega, Int.add_mul]
        omega
      show x + _ = _
      omega
  · unfold rt
    simp
theorem roll_wf : ∀ (r t : List Int) (len : Int), t ≠ [] → WF ⟨r.reverse, t, len⟩ → WF ⟨(rollBack len r t).1, (rollBack len r t).2, len⟩ ∧ (rollBack len r t).2 ≠ [] ∧ (rollBack len r t).2.length = t.length ∧ ∀ i, tk ⟨(rollBack len r t).1, (rollBack len r t).2, len⟩ i = tk ⟨r.reverse, t, len⟩ i
  | [], t, len, ht, W => ⟨W, ht, rfl, fun _ => rfl⟩
  | x :: r, t, len, ht, W => by
    unfold rollBack
    by_cases h : x + len = t.getLastD 0
    · rw [if_pos h]
      have hn : 0 < t.length := List.length_pos_iff.mpr ht
      have R : Rnd t len := W.rnd ht
      have hdl : ∀ y ∈ t.dropLast, y ∈ t := fun y hy => List.dropLast_subset _ hy
      have hsub : (r.reverse ++ (x :: t.dropLast)).Sublist ((x :: r).reverse ++ t) := by
        rw [last_rev, List.append_assoc]
        exact (List.Sublist.refl _).append (.cons₂ x (List.dropLast_sublist _))
      have hxl : x < t.headD 0 := by
        have := R.last
        omega
      have W2 : WF ⟨r.reverse, x :: t.dropLast, len⟩ := by
        refine ⟨W.asc.sublist hsub, fun y hy => W.nn y (hsub.subset hy), fun z => (nomatch z), fun _ => ⟨?_, R.pos, ?_⟩, W.short⟩
        · have := W.asc.sublist hsub
          exact (List.pairwise_append.mp this).2.1
        · show (x :: t.dropLast).getLastD 0 < x + len
          rw [h]
          cases hd : t.dropLast with
          | nil =>
            show x < _
            have := R.pos
            omega
          | cons y l =>
            have h2 : t.dropLast ≠ [] := by rw [hd]; exact List.cons_ne_nil _ _
            have hl2 : 1 < t.length := by
              have : 0 < t.dropLast.length := List.length_pos_iff.mpr h2
              rw [List.length_dropLast] at this
              omega
            show (y :: l).getLastD x < _
            have e : (y :: l).getLastD x = t.dropLast.getLastD 0 := by rw [hd]; rfl
            rw [e, lastD_eq h2, List.length_dropLast, List.dropLast_eq_take, getD_take (by omega), lastD_eq ht]
            exact asc_get R.asc (by omega) (by omega)
      obtain ⟨a, b, c, d⟩ := roll_wf r (x :: t.dropLast) len (List.cons_ne_nil _ _) W2
      refine ⟨a, b, by rw [c, List.length_cons, List.length_dropLast]; omega, fun i => ?_⟩
      rw [d i]
      unfold tk
      dsimp only
      rw [if_neg (List.cons_ne_nil _ _), if_neg ht, last_rev, List.length_append, List.length_singleton]
      by_cases h1 : i < r.reverse.length
      · rw [if_pos h1, if_pos (by omega), List.getElem?_append, if_pos h1]
      · rw [if_neg h1]
        by_cases h2 : i < r.reverse.length + 1
        · have h3 : i = r.reverse.length := by omega
          rw [if_pos h2, h3, Nat.sub_self, (roll_rt ht h 0).2, List.getElem?_append, if_neg (by omega), Nat.sub_self]
          rfl
        · rw [if_neg h2, show i - r.reverse.length = (i - (r.reverse.length + 1)) + 1 by omega, (roll_rt ht h _).1]
    · rw [if_neg h]
      exact ⟨W, ht, rfl, fun _ => rfl⟩
/-- settled: the same ticks, told the shortest way -/
theorem settled_wf {front t : List Int} {len : Int} (ht : t ≠ []) (W : WF ⟨front, t, len⟩) : WF (settled front t len) ∧ (settled front t len).round ≠ [] ∧ (settled front t len).len ≤ len ∧ ∀ i, tk (settled front t len) i = tk ⟨front, t, len⟩ i := by
  unfold settled
  rw [if_neg ht]
  dsimp only
  have hg : gapsRound t len ≠ [] := fun z => by
    have := gaps_len (t := t) (len := len)
    rw [z] at this
    exact ht (List.length_eq_zero_iff.mp this.symm)
  obtain ⟨P, _⟩ := least_part hg
  obtain ⟨R2, hle, hne⟩ := rnd_part ht (W.rnd ht) P
  have W2 : WF ⟨front, t.take (least (gapsRound t len)), ((gapsRound t len).take (least (gapsRound t len))).sum⟩ := by
    have hsub : (front ++ t.take (least (gapsRound t len))).Sublist (front ++ t) := (List.Sublist.refl _).append (List.take_sublist _ _)
    refine ⟨W.asc.sublist hsub, fun y hy => W.nn y (hsub.subset hy), fun z => absurd z hne, fun _ => R2, Int.le_trans hle W.short⟩
  obtain ⟨a, b, c, d⟩ := roll_wf front.reverse _ _ hne (by rw [List.reverse_reverse]; exact W2)
  refine ⟨a, b, hle, fun i => ?_⟩
  rw [d i, List.reverse_reverse]
  unfold tk
  dsimp only
  rw [if_neg hne, if_neg ht]
  by_cases h : i < front.length
  · rw [if_pos h, if_pos h]
  · rw [if_neg h, if_neg h, rt_part ht P]
theorem settled_nil {front : List Int} {len : Int} : settled front [] len = ⟨front, [], 0⟩ := by
  unfold settled
  rw [if_pos rfl]

/-! ### gates -/
theorem gcdZ_nat (n q : Nat) : gcdZ (n : Int) (q : Int) = ((Nat.gcd n q : Nat) : Int) := rfl
def lcmN (n q : Nat) : Nat := n / Nat.gcd n q * q
theorem lcmZ_nat (n q : Nat) : lcmZ (n : Int) (q : Int) = ((lcmN n q : Nat) : Int) := by
  unfold lcmZ lcmN
  rw [gcdZ_nat, ← Int.natCast_ediv, ← Int.natCast_mul]
theorem lcmN_right (n q : Nat) : q ∣ lcmN n q := Nat.dvd_mul_left _ _
theorem lcmN_left (n q : Nat) : n ∣ lcmN n q := by
  obtain ⟨a, ha⟩ := Nat.gcd_dvd_left n q
  obtain ⟨b, hb⟩ := Nat.gcd_dvd_right n q
  unfold lcmN
  by_cases hg : Nat.gcd n q = 0
  · have : n = 0 := (Nat.gcd_eq_zero_iff.mp hg).1
    rw [this]
    simp
  · have e : n / Nat.gcd n q = a := by
      conv => lhs; lhs; rw [ha]
      exact Nat.mul_div_cancel_left _ (by omega)
    rw [e]
    refine ⟨b, ?_⟩
    conv => rhs; lhs; rw [ha]
    conv => lhs; rhs; rw [hb]
    rw [Nat.mul_comm (Nat.gcd n q) a, Nat.mul_assoc]
theorem lcmN_pos {n q : Nat} (h : 0 < n) (h' : 0 < q) : 0 < lcmN n q := by
  unfold lcmN
  have hg : 0 < Nat.gcd n q := Nat.gcd_pos_of_pos_left _ h
  exact Nat.mul_pos (Nat.div_pos (Nat.gcd_le_left _ h) hg) h'
theorem lcmN_le {n q : Nat} : lcmN n q ≤ n * q := Nat.mul_le_mul_right _ (Nat.div_le_self _ _)
/-- the numbers of a round's so many turns by which a sign stands -/
def nums (bits : List Bool) (from_ many : Nat) : List Nat := (List.range many).filter fun i => bitAt bits ((from_ + i : Nat) : Int)
def rawGate (f : Form) (bits : List Bool) : Form :=
  ⟨keptFrom bits 0 f.front, (nums bits f.front.length (lcmN f.round.length bits.length)).map (rt f.round f.len), f.len * ((lcmN f.round.length bits.length / f.round.length : Nat) : Int)⟩
theorem tickZ_rt {f : Form} (h : f.round ≠ []) (i : Nat) : tickZ f ((f.front.length : Int) + (i : Int)) = rt f.round f.len i := by
  unfold tickZ
  have := tickAt_tk f (f.front.length + i)
  rw [show ((f.front.length + i : Nat) : Int) = (f.front.length : Int) + (i : Int) by omega] at this
  rw [this]
  unfold tk
  rw [if_neg (by omega), if_neg h, show f.front.length + i - f.front.length = i by omega]
  rfl
theorem gated_raw {f : Form} {bits : List Bool} (h : f.round ≠ []) : gated f bits = if (rawGate f bits).len > 5040 then none else some (settled (rawGate f bits).front (rawGate f bits).round (rawGate f bits).len) := by
  unfold gated rawGate
  dsimp only
  rw [if_neg h, lcmZ_nat, ← Int.natCast_ediv, Int.toNat_natCast]
  have e : ((rangeZ (f.front.length : Int) (lcmN f.round.length bits.length)).filter (bitAt bits)).map (tickZ f) = (nums bits f.front.length (lcmN f.round.length bits.length)).map (rt f.round f.len) := by
    unfold rangeZ nums
    rw [List.filter_map, List.map_map]
    have e1 : (bitAt bits ∘ fun i : Nat => (f.front.length : Int) + (i : Int)) = fun i : Nat => bitAt bits ((f.front.length + i : Nat) : Int) := by
      funext i
      show bitAt bits _ = _
      congr 1
    have e2 : (tickZ f ∘ fun i : Nat => (f.front.length : Int) + (i : Int)) = rt f.round f.len := by
      funext i
      exact tickZ_rt h i
    rw [e1, e2]
  rw [e]
theorem kept_sub (bits : List Bool) : ∀ (k : Nat) (l : List Int), (keptFrom bits k l).Sublist l
  | _, [] => .slnil
  | k, x :: r => by
    rw [keptFrom]
    split
    · exact .cons₂ x (kept_sub bits (k + 1) r)
    · exact .cons x (kept_sub bits (k + 1) r)
theorem rt_period {t : List Int} {len : Int} (ht : t ≠ []) {M : Nat} (h : t.length ∣ M) (i : Nat) : rt t len (i + M) = rt t len i + len * ((M / t.length : Nat) : Int) := by
  have := rt_mul (len := len) ht i (M / t.length)
  rw [Nat.div_mul_cancel h] at this
  rw [this, Int.mul_comm]
theorem nums_lt {bits : List Bool} {a M i : Nat} (h : i ∈ nums bits a M) : i < M := List.mem_range.mp (List.mem_filter.mp h).1
theorem nums_asc (bits : List Bool) (a M : Nat) : (nums bits a M).Pairwise (· < ·) := List.Pairwise.filter _ List.pairwise_lt_range
theorem headD_mem {l : List Int} (h : l ≠ []) : l.headD 0 ∈ l := by cases l <;> simp_all
theorem lastD_mem {l : List Int} (h : l ≠ []) : l.getLastD 0 ∈ l := by
  rw [List.getLastD_eq_getLast?, List.getLast?_eq_some_getLast h]
  exact List.getLast_mem h
theorem front_lt {f : Form} (W : WF f) (h : f.round ≠ []) {x : Int} (hx : x ∈ f.front) (i : Nat) : x < rt f.round f.len i := by
  have hn : 0 < f.round.length := List.length_pos_iff.mpr h
  have h1 := (List.pairwise_append.mp W.asc).2.2 x hx (f.round.headD 0) (headD_mem h)
  rw [headD_eq, ← rt_lt (len := f.len) hn] at h1
  by_cases hi : i = 0
  · rw [hi]; exact h1
  · have := rt_mono (W.rnd h) h (show 0 < i by omega)
    omega
theorem rt_nn {f : Form} (W : WF f) (h : f.round ≠ []) (i : Nat) : 0 ≤ rt f.round f.len i := by
  have hn : 0 < f.round.length := List.length_pos_iff.mpr h
  have h1 := W.nn (f.round.getD 0 0) (List.mem_append_right _ (getD_mem hn))
  rw [← rt_lt (len := f.len) hn] at h1
  by_cases hi : i = 0
  · rw [hi]; exact h1
  · have := rt_mono (W.rnd h) h (show 0 < i by omega)
    omega
theorem rawGate_wf {f : Form} {bits : List Bool} (W : WF f) (h : f.round ≠ []) (hb : 1 ≤ bits.length) (hw : (rawGate f bits).len ≤ 5040) (hr : (rawGate f bits).round ≠ []) : WF (rawGate f bits) := by
  have hn : 0 < f.round.length := List.length_pos_iff.mpr h
  have R := W.rnd h
  have hM := lcmN_pos hn hb
  have hMd := lcmN_left f.round.length bits.length
  have hper := rt_period (len := f.len) h hMd 0
  rw [Nat.zero_add] at hper
  have mem : ∀ x ∈ (rawGate f bits).round, ∃ i, i < lcmN f.round.length bits.length ∧ x = rt f.round f.len i := fun x hx => by
    obtain ⟨i, hi, rfl⟩ := List.mem_map.mp hx
    exact ⟨i, nums_lt hi, rfl⟩
  have hpos : 0 < (rawGate f bits).len := by
    show 0 < f.len * _
    refine Int.mul_pos R.pos ?_
    have := Nat.div_pos (Nat.le_of_dvd hM hMd) hn
    omega
  refine ⟨?_, ?_, fun z => absurd z hr, fun _ => ⟨?_, hpos, ?_⟩, hw⟩
  · refine List.pairwise_append.mpr ⟨(List.pairwise_append.mp W.asc).1.sublist (kept_sub _ _ _), ?_, ?_⟩
    · refine List.pairwise_map.mpr ((nums_asc _ _ _).imp fun {a b} hab => rt_mono R h hab)
    · intro x hx y hy
      obtain ⟨i, _, rfl⟩ := mem y hy
      exact front_lt W h ((kept_sub _ _ _).subset hx) i
  · intro x hx
    rcases List.mem_append.mp hx with hx | hx
    · exact W.nn x (List.mem_append_left _ ((kept_sub _ _ _).subset hx))
    · obtain ⟨i, _, rfl⟩ := mem x hx
      exact rt_nn W h i
  · exact List.pairwise_map.mpr ((nums_asc _ _ _).imp fun {a b} hab => rt_mono R h hab)
  · obtain ⟨i, hi, ei⟩ := mem _ (lastD_mem hr)
    obtain ⟨j, hj, ej⟩ := mem _ (headD_mem hr)
    rw [ei, ej]
    have h1 := rt_mono R h hi
    have h2 : rt f.round f.len 0 ≤ rt f.round f.len j := by
      by_cases hj : j = 0
      · rw [hj]; omega
      · have := rt_mono R h (show 0 < j by omega)
        omega
    have h3 : (rawGate f bits).len = f.len * ((lcmN f.round.length bits.length / f.round.length : Nat) : Int) := rfl
    omega
theorem WF.nil {front : List Int} (h1 : front.Pairwise (· < ·)) (h2 : ∀ x ∈ front, 0 ≤ x) : WF ⟨front, [], 0⟩ :=
  ⟨by rw [List.append_nil]; exact h1, fun x hx => h2 x (by rw [List.append_nil] at hx; exact hx), fun _ => rfl, fun z => absurd rfl z, by show (0 : Int) ≤ 5040; decide⟩
theorem gated_wf {f g : Form} {bits : List Bool} (W : WF f) (hb : 1 ≤ bits.length) (e : gated f bits = some g) : WF g := by
  have hk : WF ⟨keptFrom bits 0 f.front, [], 0⟩ := WF.nil ((List.pairwise_append.mp W.asc).1.sublist (kept_sub _ _ _)) fun x hx => W.nn x (List.mem_append_left _ ((kept_sub _ _ _).subset hx))
  by_cases h : f.round = []
  · unfold gated at e
    dsimp only at e
    rw [if_pos h] at e
    cases e
    exact hk
  · rw [gated_raw h] at e
    by_cases hw : (rawGate f bits).len > 5040
    · rw [if_pos hw] at e; cases e
    · rw [if_neg hw] at e
      cases e
      by_cases hr : (rawGate f bits).round = []
      · rw [hr, settled_nil]
        exact hk
      · exact (settled_wf hr (rawGate_wf W h hb (by omega) hr)).1
theorem later_wf {f : Form} (W : WF f) (m : Nat) : WF (laterF f m) := by
  have hm : (laterF f m).front ++ (laterF f m).round = (f.front ++ f.round).map (· + (m : Int)) := by
    unfold laterF
    rw [List.map_append]
  refine ⟨?_, ?_, fun z => W.len0 (List.map_eq_nil_iff.mp z), fun z => ?_, W.short⟩
  · rw [hm]
    exact List.pairwise_map.mpr (W.asc.imp fun {a b} h => by omega)
  · rw [hm]
    intro x hx
    obtain ⟨y, hy, rfl⟩ := List.mem_map.mp hx
    have := W.nn y hy
    omega
  · have hr : f.round ≠ [] := fun q => z (by unfold laterF; rw [q]; rfl)
    have R := W.rnd hr
    have hn : 0 < f.round.length := List.length_pos_iff.mpr hr
    refine ⟨List.pairwise_map.mpr (R.asc.imp fun {a b} h => by omega), R.pos, ?_⟩
    have hl := R.last
    rw [lastD_eq hr, headD_eq] at hl
    rw [lastD_eq z, headD_eq]
    show ((f.round.map (· + (m : Int))).getD ((f.round.map (· + (m : Int))).length - 1) 0) < _ + f.len
    rw [List.length_map]
    rw [getD_eq (show f.round.length - 1 < f.round.length by omega), getD_eq hn] at hl
    rw [getD_eq (show f.round.length - 1 < (f.round.map (· + (m : Int))).length by rw [List.length_map]; omega)]
    show _ < (f.round.map (· + (m : Int))).getD 0 0 + f.len
    rw [getD_eq (show 0 < (f.round.map (· + (m : Int))).length by rw [List.length_map]; omega), List.getElem_map, List.getElem_map]
    omega
/-- a form told late enough is not too great -/
structure Few (f : Form) : Prop where
  front : f.front.length ≤ 6000
  round : f.round.length ≤ 6000
  len : f.round ≠ [] → 0 < f.len
  lo : 0 ≤ f.len
  hi : f.len ≤ 6000
theorem lateOf_round {f : Form} (h : f.round ≠ []) : lateOf f = f.round.headD 0 := by
  unfold lateOf
  cases hr : f.round with
  | nil => exact absurd hr h
  | cons x r => rfl
theorem lateOf_front {f : Form} (h : f.round = []) (h' : f.front ≠ []) : lateOf f = f.front.getLastD 0 := by
  unfold lateOf
  rw [h]
  have hp : 0 < f.front.length := List.length_pos_iff.mpr h'
  have : f.front.drop (f.front.length - 1) = [f.front.getLastD 0] := by
    rw [lastD_eq h', getD_eq (show f.front.length - 1 < f.front.length by omega)]
    rw [List.drop_eq_getElem_cons (show f.front.length - 1 < f.front.length by omega)]
    rw [show f.front.length - 1 + 1 = f.front.length by omega, List.drop_length]
  rw [this]
  rfl
theorem few_of {f : Form} (W : WF f) (hl : lateOf f ≤ 5040) : Few f := by
  have hf : (f.front.length : Int) ≤ 5041 := by
    have hasc := (List.pairwise_append.mp W.asc).1
    refine Int.le_trans (asc_len (lo := 0) (hi := 5041) hasc (fun x hx => ⟨W.nn x (List.mem_append_left _ hx), ?_⟩) (by omega)) (by omega)
    by_cases hr : f.round = []
    · have hne : f.front ≠ [] := fun z => by rw [z] at hx; cases hx
      rw [lateOf_front hr hne] at hl
      obtain ⟨i, hi, rfl⟩ := List.getElem_of_mem hx
      rw [lastD_eq hne] at hl
      by_cases h2 : i = f.front.length - 1
      · rw [← h2, getD_eq hi] at hl
        omega
      · have := asc_get hasc (show i < f.front.length - 1 by omega) (by omega)
        rw [getD_eq hi] at this
        omega
    · rw [lateOf_round hr] at hl
      have := (List.pairwise_append.mp W.asc).2.2 x hx _ (headD_mem hr)
      omega
  have hlo : 0 ≤ f.len := by
    by_cases hr : f.round = []
    · rw [W.len0 hr]; omega
    · have := (W.rnd hr).pos; omega
  have hs := W.short
  refine ⟨by omega, ?_, fun h => (W.rnd h).pos, hlo, by omega⟩
  by_cases hr : f.round = []
  · rw [hr]; simp
  · have R := W.rnd hr
    have := asc_len (lo := f.round.headD 0) (hi := f.round.headD 0 + f.len) R.asc (fun x hx => ?_) (by omega)
    · omega
    · obtain ⟨i, hi, rfl⟩ := List.getElem_of_mem hx
      have hl := R.last
      rw [lastD_eq hr] at hl
      rw [headD_eq] at hl ⊢
      constructor
      · by_cases h0 : i = 0
        · subst h0; rw [getD_eq hi]; omega
        · have := asc_get R.asc (show 0 < i by omega) hi
          rw [getD_eq hi] at this
          omega
      · by_cases h2 : i = f.round.length - 1
        · rw [← h2, getD_eq hi] at hl
          omega
        · have := asc_get R.asc (show i < f.round.length - 1 by omega) (by omega)
          rw [getD_eq hi] at this
          omega
theorem checked_some {f g : Form} (h : checked f = some g) : g = f ∧ lateOf f ≤ 5040 := by
  unfold checked at h
  split at h
  · cases h
  · cases h
    exact ⟨rfl, by omega⟩
end TD

/-! The ticks of a form as a set; rising lists told by their members. -/
namespace TD

abbrev Asc (l : List Int) : Prop := l.Pairwise (· < ·)
theorem asc_ext : ∀ {l l' : List Int}, Asc l → Asc l' → (∀ x, x ∈ l ↔ x ∈ l') → l = l'
  | [], [], _, _, _ => rfl
  | [], y :: r, _, _, h => absurd ((h y).mpr List.mem_cons_self) List.not_mem_nil
  | x :: r, [], _, _, h => absurd ((h x).mp List.mem_cons_self) List.not_mem_nil
  | x :: l, y :: r, h1, h2, h => by
    obtain ⟨a1, a2⟩ := List.pairwise_cons.mp h1
    obtain ⟨b1, b2⟩ := List.pairwise_cons.mp h2
    have e : x = y := by
      have hx := (h x).mp List.mem_cons_self
      have hy := (h y).mpr List.mem_cons_self
      rcases List.mem_cons.mp hx with e | hx
      · exact e
      rcases List.mem_cons.mp hy with e | hy
      · exact e.symm
      have := b1 x hx
      have := a1 y hy
      omega
    subst e
    refine congrArg (x :: ·) (asc_ext a2 b2 fun z => ⟨fun hz => ?_, fun hz => ?_⟩)
    · have := a1 z hz
      rcases List.mem_cons.mp ((h z).mp (List.mem_cons_of_mem _ hz)) with e | e
      · omega
      · exact e
    · have := b1 z hz
      rcases List.mem_cons.mp ((h z).mpr (List.mem_cons_of_mem _ hz)) with e | e
      · omega
      · exact e
theorem filt_len (e : Int) : ∀ {l : List Int}, Asc l → ∀ i, i < (l.filter fun x => decide (x < e)).length ↔ ∃ x, l[i]? = some x ∧ x < e
  | [], _, i => by simp
  | x :: r, h, i => by
    obtain ⟨h1, h2⟩ := List.pairwise_cons.mp h
    by_cases hx : x < e
    · rw [List.filter_cons_of_pos (by simpa using hx)]
      cases i with
      | zero => simp [hx]
      | succ i =>
        rw [List.length_cons, List.getElem?_cons_succ]
        exact Iff.trans (by omega) (filt_len e h2 i)
    · have hz : (x :: r).filter (fun x => decide (x < e)) = [] := by
        refine List.filter_eq_nil_iff.mpr fun y hy => ?_
        rcases List.mem_cons.mp hy with rfl | hy
        · simpa using hx
        · have := h1 y hy
          simp
          omega
      rw [hz]
      constructor
      · intro h; cases h
      · rintro ⟨y, hy, hye⟩
        rcases List.mem_cons.mp (List.mem_of_getElem? hy) with rfl | h3
        · exact absurd hye hx
        · have := h1 y h3
          omega
theorem asc_of_get {l : List Int} (h : ∀ (i j : Nat) (x y : Int), l[i]? = some x → l[j]? = some y → i < j → x < y) : Asc l :=
  List.pairwise_iff_getElem.mpr fun i j hi hj hij => h i j _ _ (List.getElem?_eq_getElem hi) (List.getElem?_eq_getElem hj) hij
theorem asc_lt {l : List Int} (h : Asc l) {i j : Nat} {x y : Int} (hi : l[i]? = some x) (hj : l[j]? = some y) (hij : i < j) : x < y := by
  obtain ⟨h1, rfl⟩ := List.getElem?_eq_some_iff.mp hi
  obtain ⟨h2, rfl⟩ := List.getElem?_eq_some_iff.mp hj
  exact List.pairwise_iff_getElem.mp h i j h1 h2 hij

/-! ### the i-th tick -/
section
variable {f : Form}
theorem tk_mono (W : WF f) {i j : Nat} {x y : Int} (hi : tk f i = some x) (hj : tk f j = some y) (h : i < j) : x < y := by
  unfold tk at hi hj
  by_cases h1 : i < f.front.length
  · rw [if_pos h1] at hi
    by_cases h2 : j < f.front.length
    · rw [if_pos h2] at hj
      exact asc_lt (List.pairwise_append.mp W.asc).1 hi hj h
    · rw [if_neg h2] at hj
      by_cases hr : f.round = []
      · rw [if_pos hr] at hj; cases hj
      · rw [if_neg hr] at hj
        cases hj
        exact front_lt W hr (List.mem_of_getElem? hi) _
  · rw [if_neg h1] at hi
    rw [if_neg (by omega)] at hj
    by_cases hr : f.round = []
    · rw [if_pos hr] at hj; cases hj
    · rw [if_neg hr] at hi hj
      cases hi
      cases hj
      exact rt_mono (W.rnd hr) hr (by omega)
theorem tk_lt (W : WF f) {i j : Nat} {x y : Int} (hi : tk f i = some x) (hj : tk f j = some y) : i < j ↔ x < y := by
  refine ⟨tk_mono W hi hj, fun h => ?_⟩
  rcases Nat.lt_trichotomy i j with z | z | z
  · exact z
  · rw [z, hj] at hi
    cases hi
    omega
  · have := tk_mono W hj hi z
    omega
theorem tk_inj (W : WF f) {i j : Nat} {x : Int} (hi : tk f i = some x) (hj : tk f j = some x) : i = j := by
  have h1 := tk_lt W hi hj
  have h2 := tk_lt W hj hi
  omega
theorem tk_down {i j : Nat} {y : Int} (h : tk f j = some y) (hij : i ≤ j) : ∃ x, tk f i = some x := by
  unfold tk at h ⊢
  by_cases h1 : i < f.front.length
  · rw [if_pos h1]
    exact ⟨_, List.getElem?_eq_getElem h1⟩
  · rw [if_neg h1]
    rw [if_neg (by omega)] at h
    by_cases hr : f.round = []
    · rw [if_pos hr] at h; cases h
    · rw [if_neg hr]
      exact ⟨_, rfl⟩
theorem tk_front {i : Nat} (h : i < f.front.length) : tk f i = f.front[i]? := by
  unfold tk
  rw [if_pos h]
theorem tk_round (h : f.round ≠ []) (j : Nat) : tk f (f.front.length + j) = some (rt f.round f.len j) := by
  unfold tk
  rw [if_neg (by omega), if_neg h, show f.front.length + j - f.front.length = j by omega]
theorem tk_end (h : f.round = []) {i : Nat} (hi : f.front.length ≤ i) : tk f i = none := by
  unfold tk
  rw [if_neg (by omega), if_pos h]
theorem tk_nn (W : WF f) {i : Nat} {x : Int} (h : tk f i = some x) : 0 ≤ x := by
  unfold tk at h
  by_cases h1 : i < f.front.length
  · rw [if_pos h1] at h
    exact W.nn x (List.mem_append_left _ (List.mem_of_getElem? h))
  · rw [if_neg h1] at h
    by_cases hr : f.round = []
    · rw [if_pos hr] at h; cases h
    · rw [if_neg hr] at h
      cases h
      exact rt_nn W hr _
theorem rt_head (h : f.round ≠ []) : rt f.round f.len 0 = f.round.headD 0 := by
  rw [rt_lt (List.length_pos_iff.mpr h), headD_eq]
theorem head_rt (W : WF f) (h : f.round ≠ []) (j : Nat) : f.round.headD 0 ≤ rt f.round f.len j := by
  rw [← rt_head h]
  by_cases hj : j = 0
  · rw [hj]; omega
  · have := rt_mono (W.rnd h) h (show 0 < j by omega)
    omega
/-- x is a tick -/
def tick (f : Form) (x : Int) : Prop := ∃ i, tk f i = some x
theorem tick_iff {x : Int} : tick f x ↔ x ∈ f.front ∨ ∃ y ∈ f.round, ∃ k : Nat, x = y + (k : Int) * f.len := by
  constructor
  · rintro ⟨i, h⟩
    unfold tk at h
    by_cases h1 : i < f.front.length
    · rw [if_pos h1] at h
      exact .inl (List.mem_of_getElem? h)
    · rw [if_neg h1] at h
      by_cases hr : f.round = []
      · rw [if_pos hr] at h; cases h
      · rw [if_neg hr] at h
        cases h
        exact .inr ⟨_, getD_mem (Nat.mod_lt _ (List.length_pos_iff.mpr hr)), (i - f.front.length) / f.round.length, rfl⟩
  · rintro (h | ⟨y, hy, k, rfl⟩)
    · obtain ⟨i, hi, rfl⟩ := List.getElem_of_mem h
      exact ⟨i, by rw [tk_front hi]; exact List.getElem?_eq_getElem hi⟩
    · obtain ⟨j, hj, rfl⟩ := List.getElem_of_mem hy
      have hr : f.round ≠ [] := fun z => by rw [z] at hj; cases hj
      refine ⟨f.front.length + (j + k * f.round.length), ?_⟩
      rw [tk_round hr, rt_mul hr, rt_lt hj, getD_eq hj]
theorem tick_nn (W : WF f) {x : Int} (h : tick f x) : 0 ≤ x := let ⟨_, h⟩ := h; tk_nn W h
/-- the round's ticks are less than its length apart -/
theorem round_lt (W : WF f) (h : f.round ≠ []) {y : Int} (hy : y ∈ f.round) : f.round.headD 0 ≤ y ∧ y < f.round.headD 0 + f.len := by
  have R := W.rnd h
  obtain ⟨i, hi, rfl⟩ := List.getElem_of_mem hy
  have hl := R.last
  rw [lastD_eq h] at hl
  rw [headD_eq] at hl ⊢
  constructor
  · by_cases h0 : i = 0
    · subst h0; rw [getD_eq hi]; omega
    · have := asc_get R.asc (show 0 < i by omega) hi
      rw [getD_eq hi] at this
      omega
  · by_cases h2 : i = f.round.length - 1
    · rw [← h2, getD_eq hi] at hl
      omega
    · have := asc_get R.asc (show i < f.round.length - 1 by omega) (by omega)
      rw [getD_eq hi] at this
      omega

/-! ### how many ticks are ahead -/
def cnt (f : Form) (e : Int) : Nat := (countAhead f e).toNat
theorem cnt_both (W : WF f) (e : Int) : 0 ≤ countAhead f e ∧ ∀ i, i < cnt f e ↔ ∃ x, tk f i = some x ∧ x < e := by
  have hfa : Asc f.front := (List.pairwise_append.mp W.asc).1
  have hra : Asc f.round := (List.pairwise_append.mp W.asc).2.1
  unfold cnt countAhead countBelow
  by_cases hc : f.round = [] ∨ e ≤ f.round.headD 0
  · rw [if_pos hc, Int.toNat_natCast]
    refine ⟨by omega, fun i => ?_⟩
    rw [filt_len e hfa]
    by_cases hi : i < f.front.length
    · rw [tk_front hi]
    · rw [List.getElem?_eq_none (by omega)]
      constructor
      · rintro ⟨x, h, _⟩; cases h
      · rintro ⟨x, h, hx⟩
        by_cases hr : f.round = []
        · rw [tk_end hr (by omega)] at h; cases h
        · rw [show i = f.front.length + (i - f.front.length) by omega, tk_round hr] at h
          cases h
          have h0 := head_rt W hr (i - f.front.length)
          rcases hc with hc | hc
          · exact absurd hc hr
          · omega
  · rw [if_neg hc]
    have hr : f.round ≠ [] := fun z => hc (.inl z)
    have hh : f.round.headD 0 < e := by
      rcases Int.lt_or_le (f.round.headD 0) e with z | z
      · exact z
      · exact absurd (.inr z) hc
    have hn : 0 < f.round.length := List.length_pos_iff.mpr hr
    have R := W.rnd hr
    have hfl : ∀ x ∈ f.front, x < e := fun x hx => by
      have := front_lt W hr hx 0
      rw [rt_head hr] at this
      omega
    rw [List.filter_eq_self.mpr fun x hx => by simpa using hfl x hx]
    have hhead : ∀ r, r < f.round.length → f.round.headD 0 ≤ f.round.getD r 0 ∧ f.round.getD r 0 < f.round.headD 0 + f.len := fun r h => round_lt W hr (getD_mem h)
    have hpos := R.pos
    generalize hH : f.round.headD 0 = head at *
    obtain ⟨q, hq⟩ : ∃ q : Nat, (e - head) / f.len = (q : Int) := ⟨((e - head) / f.len).toNat, (Int.toNat_of_nonneg (Int.ediv_nonneg (by omega) (by omega))).symm⟩
    have hdm := Int.mul_ediv_add_emod (e - head) f.len
    have hr0 := Int.emod_nonneg (e - head) (show f.len ≠ 0 by omega)
    have hr1 := Int.emod_lt_of_pos (e - head) hpos
    rw [hq] at hdm ⊢
    generalize (e - head) % f.len = rest at *
    rw [show (f.round.filter fun x => decide (x - head < rest)) = f.round.filter fun x => decide (x < head + rest) from List.filter_congr fun x _ => by
      have : (x - head < rest) ↔ x < head + rest := by omega
      simp [this]]
    have hm := filt_len (head + rest) hra
    have hmn : (f.round.filter fun x => decide (x < head + rest)).length ≤ f.round.length := List.length_filter_le _ _
    generalize (f.round.filter fun x => decide (x < head + rest)).length = m at *
    rw [show ((f.front.length : Int) + (q : Int) * (f.round.length : Int) + (m : Int)) = ((f.front.length + q * f.round.length + m : Nat) : Int) by push_cast; rfl, Int.toNat_natCast]
    refine ⟨Int.natCast_nonneg _, fun i => ?_⟩
    by_cases hi : i < f.front.length
    · rw [tk_front hi, List.getElem?_eq_getElem hi]
      exact ⟨fun _ => ⟨_, rfl, hfl _ (List.getElem_mem hi)⟩, fun _ => by omega⟩
    · obtain ⟨j, rfl⟩ : ∃ j, i = f.front.length + j := ⟨i - f.front.length, by omega⟩
      rw [tk_round hr]
      have hkey : rt f.round f.len j < e ↔ j < q * f.round.length + m := by
        have hj := Nat.div_add_mod j f.round.length
        have hlt := Nat.mod_lt j hn
        unfold rt
        obtain ⟨y0, y1⟩ := hhead _ hlt
        have hmr := hm (j % f.round.length)
        rw [List.getElem?_eq_getElem hlt] at hmr
        have hy : f.round[j % f.round.length] = f.round.getD (j % f.round.length) 0 := (getD_eq hlt).symm
        rw [hy] at hmr
        clear hy hhead hm hfa hra hfl W R
        clear hlt
        have hlt := Nat.mod_lt j hn
        generalize f.round.getD (j % f.round.length) 0 = y at *
        generalize j % f.round.length = r at *
        generalize j / f.round.length = d at *
        generalize f.round.length = n at *
        generalize f.len = len at *
        rcases Nat.lt_trichotomy d q with h | h | h
        · obtain ⟨c, rfl⟩ : ∃ c, q = d + 1 + c := ⟨q - d - 1, by omega⟩
          have e1 : len * ((d + 1 + c : Nat) : Int) = d * len + len + c * len := by
            push_cast
            rw [Int.mul_add, Int.mul_add, Int.mul_one, Int.mul_comm len d, Int.mul_comm len c]
          have e2 : (d + 1 + c) * n = n * d + n + c * n := by
            rw [Nat.add_mul, Nat.add_mul, Nat.one_mul, Nat.mul_comm d n]
          have e3 : 0 ≤ (c : Int) * len := Int.mul_nonneg (by omega) (by omega)
          rw [e2]
          constructor <;> intro _ <;> omega
        · subst h
          have e1 : len * (d : Int) = d * len := Int.mul_comm _ _
          have e2 : d * n = n * d := Nat.mul_comm _ _
          have hmr2 : r < m ↔ y < head + rest := hmr.trans ⟨fun ⟨x, hx, hxe⟩ => by cases hx; exact hxe, fun hx => ⟨_, rfl, hx⟩⟩
          rw [e2]
          constructor
          · intro _
            have := hmr2.mpr (by omega)
            omega
          · intro _
            have := hmr2.mp (by omega)
            omega
        · obtain ⟨c, rfl⟩ : ∃ c, d = q + 1 + c := ⟨d - q - 1, by omega⟩
          have e1 : ((q + 1 + c : Nat) : Int) * len = q * len + len + c * len := by
            push_cast
            rw [Int.add_mul, Int.add_mul, Int.one_mul]
          have e2 : n * (q + 1 + c) = q * n + n + c * n := by
            rw [Nat.mul_add, Nat.mul_add, Nat.mul_one, Nat.mul_comm n q, Nat.mul_comm n c]
          have e3 : 0 ≤ (c : Int) * len := Int.mul_nonneg (by omega) (by omega)
          have e4 : len * (q : Int) = q * len := Int.mul_comm _ _
          constructor <;> intro _ <;> omega
      constructor
      · intro h
        exact ⟨_, rfl, hkey.mpr (by omega)⟩
      · rintro ⟨x, hx, hxe⟩
        cases hx
        have := hkey.mp hxe
        omega
theorem cnt_spec (W : WF f) {e : Int} {i : Nat} : i < cnt f e ↔ ∃ x, tk f i = some x ∧ x < e := (cnt_both W e).2 i
theorem cnt_eq (W : WF f) (e : Int) : countAhead f e = (cnt f e : Int) := (Int.toNat_of_nonneg (cnt_both W e).1).symm
theorem tickZ_tk {i : Nat} {x : Int} (h : tk f i = some x) : tickZ f (i : Int) = x := by
  unfold tickZ
  rw [tickAt_tk, h]
  rfl
theorem all_get (W : WF f) {e : Int} {i : Nat} {x : Int} : (allAhead f e)[i]? = some x ↔ tk f i = some x ∧ x < e := by
  have hl : (allAhead f e).length = cnt f e := by
    unfold allAhead rangeZ cnt
    simp
  by_cases hi : i < cnt f e
  · obtain ⟨y, hy, hye⟩ := (cnt_spec W).mp hi
    have : (allAhead f e)[i]? = some y := by
      unfold allAhead rangeZ
      rw [List.getElem?_map, List.getElem?_map, show (countAhead f e).toNat = cnt f e from rfl, List.getElem?_range hi]
      show some (tickZ f (0 + (i : Int))) = _
      rw [Int.zero_add, tickZ_tk hy]
    rw [this, hy]
    constructor
    · intro h
      cases h
      exact ⟨rfl, hye⟩
    · exact fun h => h.1
  · rw [List.getElem?_eq_none (by omega)]
    constructor
    · intro h; cases h
    · rintro ⟨h1, h2⟩
      exact absurd ((cnt_spec W).mpr ⟨x, h1, h2⟩) hi
theorem all_len {e : Int} : (allAhead f e).length = cnt f e := by
  unfold allAhead rangeZ cnt
  simp
theorem all_asc (W : WF f) (e : Int) : Asc (allAhead f e) := asc_of_get fun i j x y hi hj hij => tk_mono W ((all_get W).mp hi).1 ((all_get W).mp hj).1 hij
theorem all_mem (W : WF f) {e x : Int} : x ∈ allAhead f e ↔ tick f x ∧ x < e := by
  rw [List.mem_iff_getElem?]
  constructor
  · rintro ⟨i, h⟩
    obtain ⟨h1, h2⟩ := (all_get W).mp h
    exact ⟨⟨i, h1⟩, h2⟩
  · rintro ⟨⟨i, h1⟩, h2⟩
    exact ⟨i, (all_get W).mpr ⟨h1, h2⟩⟩
theorem all_le (W : WF f) {e e' : Int} (h : e ≤ e') : (allAhead f e').filter (fun x => decide (x < e)) = allAhead f e := by
  refine asc_ext ((all_asc W e').filter _) (all_asc W e) fun x => ?_
  rw [List.mem_filter, all_mem W, all_mem W, decide_eq_true_eq]
  constructor
  · rintro ⟨⟨a, _⟩, b⟩
    exact ⟨a, b⟩
  · rintro ⟨a, b⟩
    exact ⟨⟨a, by omega⟩, b⟩
theorem all_len_le (W : WF f) {e : Int} (h : 0 ≤ e) : ((allAhead f e).length : Int) ≤ e := by
  have := asc_len (all_asc W e) (lo := 0) (hi := e) (fun x hx => by
    obtain ⟨a, b⟩ := (all_mem W).mp hx
    exact ⟨tick_nn W a, b⟩) h
  omega
end
/-! ### settled -/
theorem settled_tick {front t : List Int} {len : Int} (h : t ≠ [] → WF ⟨front, t, len⟩) {x : Int} : tick (settled front t len) x ↔ tick ⟨front, t, len⟩ x := by
  by_cases ht : t = []
  · subst ht
    rw [settled_nil, tick_iff, tick_iff]
    simp
  · obtain ⟨_, _, _, e⟩ := settled_wf ht (h ht)
    unfold tick
    simp only [e]
/-- the front is as short as can be -/
def Min (f : Form) : Prop := f.round ≠ [] → f.front = [] ∨ f.front.getLastD 0 + f.len ≠ f.round.getLastD 0
theorem roll_min (len : Int) : ∀ (r t : List Int), (rollBack len r t).1 = [] ∨ (rollBack len r t).1.getLastD 0 + len ≠ (rollBack len r t).2.getLastD 0
  | [], t => .inl rfl
  | x :: r, t => by
    unfold rollBack
    by_cases h : x + len = t.getLastD 0
    · rw [if_pos h]
      exact roll_min len r _
    · rw [if_neg h]
      refine .inr ?_
      have : (x :: r).reverse.getLastD 0 = x := by
        rw [last_rev, List.getLastD_eq_getLast?, List.getLast?_append]
        rfl
      dsimp only
      rw [this]
      exact h
theorem settled_min {front t : List Int} {len : Int} : Min (settled front t len) := by
  intro h
  unfold settled at h ⊢
  by_cases ht : t = []
  · rw [if_pos ht] at h
    exact absurd rfl h
  · rw [if_neg ht]
    exact roll_min _ _ _
theorem roll_len (len : Int) : ∀ (r t : List Int), t ≠ [] → (rollBack len r t).2.length = t.length
  | [], t, _ => rfl
  | x :: r, t, h => by
    unfold rollBack
    by_cases hx : x + len = t.getLastD 0
    · rw [if_pos hx, roll_len len r _ (List.cons_ne_nil _ _), List.length_cons, List.length_dropLast]
      have := List.length_pos_iff.mpr h
      omega
    · rw [if_neg hx]
theorem settled_dvd {front t : List Int} {len : Int} (ht : t ≠ []) : (settled front t len).len ∣ len := by
  unfold settled
  rw [if_neg ht]
  dsimp only
  have hg : gapsRound t len ≠ [] := fun z => by
    have := gaps_len (t := t) (len := len)
    rw [z] at this
    exact ht (List.length_eq_zero_iff.mp this.symm)
  obtain ⟨P, _⟩ := least_part hg
  have hn : 0 < t.length := List.length_pos_iff.mpr ht
  have hmd : least (gapsRound t len) ∣ t.length := gaps_len (t := t) (len := len) ▸ P.dvd
  have hm := Nat.le_of_dvd hn hmd
  have h1 := P.one
  have e := rt_part ht P t.length
  have e0 := rt_part ht P 0
  have hlen := rt_mul (len := len) ht 0 1
  rw [Nat.zero_add, Nat.one_mul] at hlen
  have hl : (t.take (least (gapsRound t len))).length = least (gapsRound t len) := by rw [List.length_take]; omega
  have hne : t.take (least (gapsRound t len)) ≠ [] := fun z => by rw [z] at hl; simp at hl; omega
  have e2 := rt_mul (len := ((gapsRound t len).take (least (gapsRound t len))).sum) hne 0 (t.length / least (gapsRound t len))
  rw [hl, Nat.div_mul_cancel hmd, Nat.zero_add, e, e0, hlen] at e2
  generalize ((gapsRound t len).take (least (gapsRound t len))).sum = L at *
  refine ⟨((t.length / least (gapsRound t len) : Nat) : Int), ?_⟩
  rw [Int.mul_comm]
  omega
theorem settled_round {front t : List Int} {len : Int} (ht : t ≠ []) : (settled front t len).round ≠ [] := by
  unfold settled
  rw [if_neg ht]
  dsimp only
  intro z
  have hg : gapsRound t len ≠ [] := fun z => by
    have := gaps_len (t := t) (len := len)
    rw [z] at this
    exact ht (List.length_eq_zero_iff.mp this.symm)
  obtain ⟨P, _⟩ := least_part hg
  have hl : 0 < (t.take (least (gapsRound t len))).length := by
    rw [List.length_take]
    have := List.length_pos_iff.mpr ht
    have := P.one
    omega
  have := roll_len (((gapsRound t len).take (least (gapsRound t len))).sum) front.reverse (t.take (least (gapsRound t len))) (List.length_pos_iff.mp hl)
  rw [z] at this
  rw [List.length_nil] at this
  omega
/-! ### from where on, and by how much, it goes round -/
structure Per (f : Form) (B W : Int) : Prop where
  b0 : 0 ≤ B
  w1 : 1 ≤ W
  per : ∀ x, B ≤ x → (tick f x ↔ tick f (x + W))
theorem Per.mul {f : Form} {B W : Int} (p : Per f B W) {x : Int} (hx : B ≤ x) : ∀ k : Nat, tick f x ↔ tick f (x + (k : Int) * W)
  | 0 => by simp
  | k + 1 => by
    have h0 : 0 ≤ (k : Int) * W := Int.mul_nonneg (by omega) (by have := p.w1; omega)
    rw [p.mul hx k, p.per _ (by omega), show x + (k : Int) * W + W = x + ((k + 1 : Nat) : Int) * W by push_cast; rw [Int.add_mul, Int.one_mul]; omega]
/-- a form goes round from its start on -/
theorem start_nn {f : Form} (W : WF f) : 0 ≤ startOf f := by
  unfold startOf
  by_cases hr : f.round = []
  · rw [if_neg (by simp [hr])]
    by_cases hf : f.front = []
    · rw [if_neg (by simp [hf])]; omega
    · rw [if_pos hf]
      have := W.nn _ (List.mem_append_left _ (lastD_mem hf))
      omega
  · rw [if_pos hr]
    exact W.nn _ (List.mem_append_right _ (headD_mem hr))
theorem front_start {f : Form} (W : WF f) {x : Int} (hx : x ∈ f.front) : x < startOf f := by
  unfold startOf
  by_cases hr : f.round = []
  · have hne : f.front ≠ [] := fun z => by rw [z] at hx; cases hx
    rw [if_neg (by simp [hr]), if_pos hne]
    have hasc := (List.pairwise_append.mp W.asc).1
    obtain ⟨i, hi, rfl⟩ := List.getElem_of_mem hx
    rw [lastD_eq hne]
    by_cases h2 : i = f.front.length - 1
    · rw [← h2, getD_eq hi]; omega
    · have := asc_get hasc (show i < f.front.length - 1 by omega) (by omega)
      rw [getD_eq hi] at this
      omega
  · rw [if_pos hr]
    have := front_lt W hr hx 0
    rwa [rt_head hr] at this
theorem start_per {f : Form} (W : WF f) {L : Int} (hL : 1 ≤ L) (hd : f.round ≠ [] → f.len ∣ L) : Per f (startOf f) L := by
  refine ⟨start_nn W, hL, fun x hx => ?_⟩
  have hnf : ∀ y, startOf f ≤ y → y ∉ f.front := fun y hy hm => by
    have := front_start W hm
    omega
  rw [tick_iff, tick_iff]
  by_cases hr : f.round = []
  · rw [hr]
    simp [hnf x hx, hnf (x + L) (by omega)]
  · obtain ⟨c, hc⟩ := hd hr
    have hpos := (W.rnd hr).pos
    have hc0 : 0 ≤ c := by
      rcases Int.lt_or_le c 0 with z | z
      · have := Int.mul_neg_of_pos_of_neg hpos z
        omega
      · exact z
    obtain ⟨m, rfl⟩ := Int.eq_ofNat_of_zero_le hc0
    constructor
    · rintro (h | ⟨y, hy, k, rfl⟩)
      · exact absurd h (hnf _ hx)
      · exact .inr ⟨y, hy, k + m, by push_cast; rw [Int.add_mul, hc, Int.mul_comm f.len]; omega⟩
    · rintro (h | ⟨y, hy, k, e⟩)
      · exact absurd h (hnf _ (by omega))
      · refine .inr ⟨y, hy, k - m, ?_⟩
        have hkm : m ≤ k := by
          have hy1 := (round_lt W hr hy).2
          have hs : startOf f = f.round.headD 0 := by unfold startOf; rw [if_pos hr]
          rcases Nat.lt_or_ge k m with z | z
          · exfalso
            obtain ⟨d, rfl⟩ : ∃ d, m = k + 1 + d := ⟨m - k - 1, by omega⟩
            have e1 : f.len * ((k + 1 + d : Nat) : Int) = (k : Int) * f.len + f.len + (d : Int) * f.len := by
              push_cast
              rw [Int.mul_add, Int.mul_add, Int.mul_one, Int.mul_comm f.len k, Int.mul_comm f.len d]
            have e3 : 0 ≤ (d : Int) * f.len := Int.mul_nonneg (by omega) (by omega)
            omega
          · exact z
        obtain ⟨d, rfl⟩ : ∃ d, k = m + d := ⟨k - m, by omega⟩
        rw [show m + d - m = d by omega]
        have : ((m + d : Nat) : Int) * f.len = f.len * (m : Int) + (d : Int) * f.len := by
          push_cast
          rw [Int.add_mul, Int.mul_comm f.len]
        omega
theorem filt_split (p : Int → Bool) : ∀ l : List Int, l.length = (l.filter p).length + (l.filter fun y => !p y).length
  | [] => rfl
  | x :: r => by
    have ih := filt_split p r
    cases h : p x <;> simp [h] <;> omega
theorem Per.shift {f : Form} {B W : Int} (p : Per f B W) (F : WF f) : ∀ i x, tk f i = some x → B ≤ x → tk f (i + (cnt f (B + W) - cnt f B)) = some (x + W) := by
  intro i x hx hB
  have hw := p.w1
  have key : ((allAhead f (x + 1)).filter fun y => decide (B ≤ y)).map (· + W) = (allAhead f (x + W + 1)).filter fun y => decide (B + W ≤ y) := by
    refine asc_ext ?_ ((all_asc F _).filter _) fun y => ?_
    · exact List.pairwise_map.mpr (((all_asc F _).filter _).imp fun {a b} h => by omega)
    · simp only [List.mem_map, List.mem_filter, all_mem F, decide_eq_true_eq]
      constructor
      · rintro ⟨z, ⟨⟨h1, h2⟩, h3⟩, rfl⟩
        exact ⟨⟨(p.per z h3).mp h1, by omega⟩, by omega⟩
      · rintro ⟨⟨h1, h2⟩, h3⟩
        refine ⟨y - W, ⟨⟨(p.per (y - W) (by omega)).mpr (by rw [show y - W + W = y by omega]; exact h1), by omega⟩, by omega⟩, by omega⟩
  have hlen : ∀ e B' : Int, B' ≤ e → ((allAhead f e).filter fun y => decide (B' ≤ y)).length = cnt f e - cnt f B' := fun e B' h => by
    have h1 := filt_split (fun y => decide (y < B')) (allAhead f e)
    rw [all_le F h, all_len, all_len] at h1
    have h2 : ((allAhead f e).filter fun y => !decide (y < B')) = (allAhead f e).filter fun y => decide (B' ≤ y) := List.filter_congr fun y _ => by
      by_cases hy : y < B'
      · rw [decide_eq_true hy, decide_eq_false (by omega)]; rfl
      · rw [decide_eq_false hy, decide_eq_true (by omega)]; rfl
    rw [h2] at h1
    omega
  have hl := congrArg List.length key
  rw [List.length_map, hlen _ _ (by omega), hlen _ _ (by omega)] at hl
  have hmono : ∀ a b : Int, a ≤ b → cnt f a ≤ cnt f b := fun a b h => by
    rcases Nat.lt_or_ge (cnt f b) (cnt f a) with z | z
    · exfalso
      obtain ⟨y, hy, hye⟩ := (cnt_spec F).mp z
      have := (cnt_spec F).mpr ⟨y, hy, show y < b by omega⟩
      omega
    · exact z
  have m1 := hmono B (x + 1) (by omega)
  have m2 := hmono (B + W) (x + W + 1) (by omega)
  have m3 := hmono B (B + W) (by omega)
  have hc1 : cnt f (x + 1) = i + 1 := by
    have a := (cnt_spec F).mpr ⟨x, hx, show x < x + 1 by omega⟩
    rcases Nat.lt_or_ge (i + 1) (cnt f (x + 1)) with z | z
    · obtain ⟨y, hy, hye⟩ := (cnt_spec F).mp z
      have := tk_mono F hx hy (by omega)
      omega
    · omega
  obtain ⟨j, hj⟩ := (p.per x hB).mp ⟨i, hx⟩
  have hc2 : cnt f (x + W + 1) = j + 1 := by
    have a := (cnt_spec F).mpr ⟨x + W, hj, show x + W < x + W + 1 by omega⟩
    rcases Nat.lt_or_ge (j + 1) (cnt f (x + W + 1)) with z | z
    · obtain ⟨y, hy, hye⟩ := (cnt_spec F).mp z
      have := tk_mono F hj hy (by omega)
      omega
    · omega
  rw [show i + (cnt f (B + W) - cnt f B) = j by omega]
  exact hj
theorem cnt_mono {f : Form} (F : WF f) {a b : Int} (h : a ≤ b) : cnt f a ≤ cnt f b := by
  rcases Nat.lt_or_ge (cnt f b) (cnt f a) with z | z
  · exfalso
    obtain ⟨y, hy, hye⟩ := (cnt_spec F).mp z
    have := (cnt_spec F).mpr ⟨y, hy, show y < b by omega⟩
    omega
  · exact z
/-- what goes round has a tick in each turn, if it has any behind the begin -/
theorem Per.ends {f : Form} {B W : Int} (p : Per f B W) (F : WF f) (hr : f.round = []) : ∀ x, tick f x → x < B := by
  intro x hx
  rcases Int.lt_or_le x B with z | z
  · exact z
  · exfalso
    have h2 := (p.mul z (startOf f).toNat).mp hx
    rw [tick_iff, hr] at h2
    have hm : x + ((startOf f).toNat : Int) * W ∈ f.front := by simpa using h2
    have h3 := front_start F hm
    have hs := start_nn F
    have := tick_nn F hx
    have hw := p.w1
    have : ((startOf f).toNat : Int) * 1 ≤ ((startOf f).toNat : Int) * W := Int.mul_le_mul_of_nonneg_left hw (by omega)
    omega
theorem Per.goes {f : Form} {B W : Int} (p : Per f B W) (F : WF f) (hr : f.round ≠ []) : ∃ x, tick f x ∧ B ≤ x ∧ x < B + W := by
  have hw := p.w1
  have hb := p.b0
  have hpos := (F.rnd hr).pos
  -- a tick behind B
  have h0 : tick f (f.round.headD 0 + (B.toNat : Int) * f.len) := tick_iff.mpr (.inr ⟨_, headD_mem hr, B.toNat, rfl⟩)
  have hnn := F.nn _ (List.mem_append_right _ (headD_mem hr))
  have h1 : (B.toNat : Int) * 1 ≤ (B.toNat : Int) * f.len := Int.mul_le_mul_of_nonneg_left (by omega) (by omega)
  have hxB : B ≤ f.round.headD 0 + (B.toNat : Int) * f.len := by omega
  generalize f.round.headD 0 + (B.toNat : Int) * f.len = x at *
  refine ⟨B + (x - B) % W, ?_, ?_, ?_⟩
  · have hk := Int.mul_ediv_add_emod (x - B) W
    have hq : 0 ≤ (x - B) / W := Int.ediv_nonneg (by omega) (by omega)
    have hm := Int.emod_nonneg (x - B) (show W ≠ 0 by omega)
    obtain ⟨k, hk2⟩ := Int.eq_ofNat_of_zero_le hq
    refine (p.mul (by omega) k).mpr ?_
    rw [hk2, Int.mul_comm] at hk
    rw [show B + (x - B) % W + (k : Int) * W = x by omega]
    exact h0
  · have := Int.emod_nonneg (x - B) (show W ≠ 0 by omega); omega
  · have := Int.emod_lt_of_pos (x - B) (show 0 < W by omega); omega
theorem min_start {f : Form} {B W : Int} (p : Per f B W) (F : WF f) (M : Min f) (hr : f.round ≠ []) : f.round.headD 0 < B + W := by
  rcases Int.lt_or_le (f.round.headD 0) (B + W) with z | z
  · exact z
  exfalso
  obtain ⟨y, ⟨iy, hy⟩, hyB, hyW⟩ := p.goes F hr
  have hn : 0 < f.round.length := List.length_pos_iff.mpr hr
  -- the front's last tick is behind B
  have hh : tk f f.front.length = some (f.round.headD 0) := by
    have := tk_round hr 0
    rw [Nat.add_zero, rt_head hr] at this
    exact this
  have hi : iy < f.front.length := (tk_lt F hy hh).mpr (by omega)
  have hne : f.front ≠ [] := fun q => by rw [q] at hi; cases hi
  have hF : f.front.length - 1 < f.front.length := by omega
  have hx : tk f (f.front.length - 1) = some (f.front.getLastD 0) := by
    rw [tk_front hF, lastD_eq hne, getD_eq hF]
    exact List.getElem?_eq_getElem hF
  have hxB : B ≤ f.front.getLastD 0 := by
    by_cases q : iy = f.front.length - 1
    · rw [q, hx] at hy
      cases hy
      exact hyB
    · have := tk_mono F hy hx (by omega)
      omega
  -- shifts by the turn
  generalize hs : cnt f (B + W) - cnt f B = s at *
  have sh := p.shift F
  rw [hs] at sh
  have s1 : 1 ≤ s := by
    rcases Nat.eq_zero_or_pos s with q | q
    · have := sh _ _ hx hxB
      rw [q, Nat.add_zero, hx] at this
      have hw := p.w1
      have := Option.some.inj this
      omega
    · exact q
  have a1 := sh _ _ hx hxB
  have hlast : tk f (f.front.length - 1 + f.round.length) = some (f.round.getLastD 0) := by
    rw [show f.front.length - 1 + f.round.length = f.front.length + (f.round.length - 1) by omega, tk_round hr, rt_lt (by omega), lastD_eq hr]
  have hlB : B ≤ f.round.getLastD 0 := by
    have := tk_mono F hx hlast (by omega)
    omega
  have a2 := sh _ _ hlast hlB
  have step : tk f (f.front.length - 1 + s + f.round.length) = some (f.front.getLastD 0 + W + f.len) := by
    have e1 : f.front.length - 1 + s = f.front.length + (s - 1) := by omega
    rw [e1, tk_round hr] at a1
    rw [show f.front.length - 1 + s + f.round.length = f.front.length + ((s - 1) + 1 * f.round.length) by omega, tk_round hr, rt_mul hr]
    rw [← Option.some.inj a1]
    simp
  rw [show f.front.length - 1 + f.round.length + s = f.front.length - 1 + s + f.round.length by omega, step] at a2
  have e3 : f.front.getLastD 0 + W + f.len = f.round.getLastD 0 + W := by
    exact Option.some.inj a2
  rcases M hr with q | q
  · exact hne q
  · exact q (by omega)
/-- .. so it isn't too late -/
theorem min_late {f : Form} {B W : Int} (p : Per f B W) (F : WF f) (M : Min f) (h : B + W ≤ 5041) : lateOf f ≤ 5040 := by
  have hw := p.w1
  by_cases hr : f.round = []
  · by_cases hf : f.front = []
    · unfold lateOf
      rw [hr, hf]
      decide
    · rw [lateOf_front hr hf]
      have := p.ends F hr _ (tick_iff.mpr (.inl (lastD_mem hf)))
      omega
  · rw [lateOf_round hr]
    have := min_start p F M hr
    omega
end TD

/-! What the forms of gates, of two, of led ones tick. -/
namespace TD

/-! ### gates -/
theorem kept_mem (bits : List Bool) {x : Int} : ∀ (k : Nat) (l : List Int), x ∈ keptFrom bits k l ↔ ∃ i, l[i]? = some x ∧ bitAt bits ((k + i : Nat) : Int) = true
  | k, [] => by simp [keptFrom]
  | k, y :: r => by
    have ih := kept_mem bits (x := x) (k + 1) r
    have sp : (∃ i, (y :: r)[i]? = some x ∧ bitAt bits ((k + i : Nat) : Int) = true) ↔ (y = x ∧ bitAt bits (k : Int) = true) ∨ ∃ i, r[i]? = some x ∧ bitAt bits ((k + 1 + i : Nat) : Int) = true := by
      constructor
      · rintro ⟨i, h1, h2⟩
        cases i with
        | zero => exact .inl ⟨Option.some.inj h1, h2⟩
        | succ i => exact .inr ⟨i, h1, by rw [show k + 1 + i = k + (i + 1) by omega]; exact h2⟩
      · rintro (⟨rfl, h⟩ | ⟨i, h1, h2⟩)
        · exact ⟨0, rfl, h⟩
        · exact ⟨i + 1, h1, by rw [show k + (i + 1) = k + 1 + i by omega]; exact h2⟩
    rw [sp, keptFrom]
    by_cases hb : bitAt bits (k : Int) = true
    · rw [if_pos hb, List.mem_cons, ih]
      simp only [hb, and_true]
      constructor
      · rintro (h | h)
        · exact .inl h.symm
        · exact .inr h
      · rintro (h | h)
        · exact .inl h.symm
        · exact .inr h
    · rw [if_neg hb, ih]
      simp [hb]
theorem bit_mod {bits : List Bool} {M : Nat} (h : bits.length ∣ M) (a k : Nat) : bitAt bits ((a + k * M : Nat) : Int) = bitAt bits (a : Int) := by
  unfold bitAt
  obtain ⟨c, rfl⟩ := h
  congr 1
  rw [← Int.natCast_emod, ← Int.natCast_emod, Int.toNat_natCast, Int.toNat_natCast, show k * (bits.length * c) = bits.length * (k * c) by rw [← Nat.mul_assoc, ← Nat.mul_assoc, Nat.mul_comm k], Nat.add_mul_mod_self_left]
theorem gated_tick {f g : Form} {bits : List Bool} (W : WF f) (hb : 1 ≤ bits.length) (e : gated f bits = some g) {x : Int} : tick g x ↔ ∃ i, tk f i = some x ∧ bitAt bits (i : Int) = true := by
  by_cases h : f.round = []
  · unfold gated at e
    dsimp only at e
    rw [if_pos h] at e
    cases e
    rw [tick_iff]
    simp only [List.not_mem_nil, false_and, exists_false, or_false]
    rw [kept_mem]
    constructor
    · rintro ⟨i, h1, h2⟩
      rw [Nat.zero_add] at h2
      exact ⟨i, by rw [tk_front (List.getElem?_eq_some_iff.mp h1).1]; exact h1, h2⟩
    · rintro ⟨i, h1, h2⟩
      have hi : i < f.front.length := by
        rcases Nat.lt_or_ge i f.front.length with z | z
        · exact z
        · rw [tk_end h z] at h1; cases h1
      rw [tk_front hi] at h1
      exact ⟨i, h1, by rw [Nat.zero_add]; exact h2⟩
  · rw [gated_raw h] at e
    by_cases hw : (rawGate f bits).len > 5040
    · rw [if_pos hw] at e; cases e
    · rw [if_neg hw] at e
      cases e
      rw [settled_tick (front := (rawGate f bits).front) (t := (rawGate f bits).round) (len := (rawGate f bits).len) (fun hr => rawGate_wf W h hb (by omega) hr), tick_iff]
      have hn : 0 < f.round.length := List.length_pos_iff.mpr h
      have hM := lcmN_pos hn hb
      have hMl := lcmN_left f.round.length bits.length
      have hMr := lcmN_right f.round.length bits.length
      show (x ∈ keptFrom bits 0 f.front ∨ ∃ y ∈ (nums bits f.front.length (lcmN f.round.length bits.length)).map (rt f.round f.len), ∃ k : Nat, x = y + (k : Int) * (f.len * ((lcmN f.round.length bits.length / f.round.length : Nat) : Int))) ↔ _
      generalize lcmN f.round.length bits.length = M at *
      have hmul : ∀ i k, rt f.round f.len i + (k : Nat) * (f.len * ((M / f.round.length : Nat) : Int)) = rt f.round f.len (i + k * M) := fun i k => by
        have := rt_mul (len := f.len) h i (k * (M / f.round.length))
        rw [Nat.mul_assoc, Nat.div_mul_cancel hMl] at this
        rw [this]
        push_cast
        rw [Int.mul_comm f.len, Int.mul_assoc]
      rw [kept_mem]
      constructor
      · rintro (⟨i, h1, h2⟩ | ⟨y, hy, k, rfl⟩)
        · rw [Nat.zero_add] at h2
          exact ⟨i, by rw [tk_front (List.getElem?_eq_some_iff.mp h1).1]; exact h1, h2⟩
        · obtain ⟨i, hi, rfl⟩ := List.mem_map.mp hy
          have hbit := (List.mem_filter.mp hi).2
          refine ⟨f.front.length + (i + k * M), ?_, ?_⟩
          · rw [tk_round h, hmul]
          · rw [show f.front.length + (i + k * M) = (f.front.length + i) + k * M by omega, bit_mod hMr]
            exact hbit
      · rintro ⟨i, h1, h2⟩
        by_cases hi : i < f.front.length
        · rw [tk_front hi] at h1
          exact .inl ⟨i, h1, by rw [Nat.zero_add]; exact h2⟩
        · obtain ⟨j, rfl⟩ : ∃ j, i = f.front.length + j := ⟨i - f.front.length, by omega⟩
          rw [tk_round h] at h1
          cases h1
          have hj : j % M + j / M * M = j := by rw [Nat.mul_comm]; exact Nat.mod_add_div j M
          refine .inr ⟨_, List.mem_map.mpr ⟨j % M, List.mem_filter.mpr ⟨List.mem_range.mpr (Nat.mod_lt _ hM), ?_⟩, rfl⟩, j / M, ?_⟩
          · rw [← hj, show f.front.length + (j % M + j / M * M) = (f.front.length + j % M) + j / M * M by omega, bit_mod hMr] at h2
            exact h2
          · rw [hmul, hj]
theorem gated_min {f g : Form} {bits : List Bool} (e : gated f bits = some g) : Min g := by
  by_cases h : f.round = []
  · unfold gated at e
    dsimp only at e
    rw [if_pos h] at e
    cases e
    exact fun z => absurd rfl z
  · rw [gated_raw h] at e
    split at e
    · cases e
    · cases e
      exact settled_min
/-- its length goes into so many turns -/
theorem lcmN_div {n q : Nat} (hn : 0 < n) : lcmN n q / n ∣ q := by
  obtain ⟨a, ha⟩ := Nat.gcd_dvd_left n q
  obtain ⟨b, hb⟩ := Nat.gcd_dvd_right n q
  have hg : 0 < Nat.gcd n q := Nat.gcd_pos_of_pos_left _ hn
  have e1 : n / Nat.gcd n q = a := by
    conv => lhs; lhs; rw [ha]
    exact Nat.mul_div_cancel_left _ hg
  have e2 : lcmN n q = n * b := by
    unfold lcmN
    rw [e1]
    conv => lhs; rhs; rw [hb]
    conv => rhs; lhs; rw [ha]
    rw [← Nat.mul_assoc, Nat.mul_comm a]
  rw [e2, Nat.mul_div_cancel_left _ hn]
  exact ⟨Nat.gcd n q, by rw [Nat.mul_comm]; exact hb⟩
theorem gated_some {f : Form} {bits : List Bool} {W : Int} (F : WF f) (hb : 1 ≤ bits.length) (hw : 1 ≤ W) (hd : f.round ≠ [] → f.len ∣ W) (hs : W * (bits.length : Int) ≤ 5040) : ∃ g, gated f bits = some g ∧ (g.round ≠ [] → g.len ∣ W * (bits.length : Int)) := by
  by_cases h : f.round = []
  · refine ⟨⟨keptFrom bits 0 f.front, [], 0⟩, ?_, fun z => absurd rfl z⟩
    unfold gated
    dsimp only
    rw [if_pos h]
  · rw [gated_raw h]
    have hn : 0 < f.round.length := List.length_pos_iff.mpr h
    have hdv : (rawGate f bits).len ∣ W * (bits.length : Int) := by
      show f.len * ((lcmN f.round.length bits.length / f.round.length : Nat) : Int) ∣ _
      exact Int.mul_dvd_mul (hd h) (Int.natCast_dvd_natCast.mpr (lcmN_div hn))
    have hp : 0 < W * (bits.length : Int) := Int.mul_pos (by omega) (by omega)
    have hle := Int.le_of_dvd hp hdv
    rw [if_neg (by omega)]
    refine ⟨_, rfl, fun hr => ?_⟩
    by_cases ht : (rawGate f bits).round = []
    · rw [ht, settled_nil] at hr
      exact absurd rfl hr
    · exact Int.dvd_trans (settled_dvd ht) hdv
/-! ### later -/
theorem later_tick {f : Form} {m : Nat} {x : Int} : tick (laterF f m) x ↔ tick f (x - m) := by
  rw [tick_iff, tick_iff]
  unfold laterF
  dsimp only
  constructor
  · rintro (h | ⟨y, hy, k, rfl⟩)
    · obtain ⟨z, hz, rfl⟩ := List.mem_map.mp h
      exact .inl (by rw [show z + (m : Int) - m = z by omega]; exact hz)
    · obtain ⟨z, hz, rfl⟩ := List.mem_map.mp hy
      exact .inr ⟨z, hz, k, by omega⟩
  · rintro (h | ⟨y, hy, k, e⟩)
    · exact .inl (List.mem_map.mpr ⟨_, h, by omega⟩)
    · exact .inr ⟨y + m, List.mem_map.mpr ⟨y, hy, rfl⟩, k, by omega⟩
theorem last_map {l : List Int} (h : l ≠ []) (d : Int) : (l.map (· + d)).getLastD 0 = l.getLastD 0 + d := by
  rw [List.getLastD_eq_getLast?, List.getLastD_eq_getLast?, List.getLast?_map, List.getLast?_eq_some_getLast h]
  rfl
theorem later_min {f : Form} {m : Nat} (M : Min f) : Min (laterF f m) := by
  intro h
  have hr : f.round ≠ [] := fun z => h (by unfold laterF; rw [z]; rfl)
  rcases M hr with q | q
  · exact .inl (by unfold laterF; rw [q]; rfl)
  · by_cases hf : f.front = []
    · exact .inl (by unfold laterF; rw [hf]; rfl)
    · refine .inr ?_
      show (f.front.map (· + (m : Int))).getLastD 0 + f.len ≠ (f.round.map (· + (m : Int))).getLastD 0
      rw [last_map hf, last_map hr]
      omega

/-! ### of two -/
def Two.holds : Two → Prop → Prop → Prop
  | .either, a, b => a ∨ b
  | .both, a, b => a ∧ b
  | .but, a, b => a ∧ ¬ b
theorem holds_congr {w : Two} {a b c d : Prop} (h1 : a ↔ c) (h2 : b ↔ d) : w.holds a b ↔ w.holds c d := by
  cases w <;> simp [Two.holds, h1, h2]
theorem ins_mem {x y : Int} : ∀ {l : List Int}, y ∈ insUp x l ↔ y = x ∨ y ∈ l
  | [] => by simp [insUp]
  | z :: r => by
    have ih := ins_mem (x := x) (y := y) (l := r)
    unfold insUp
    split
    · simp
    · split
      · rename_i h
        subst h
        simp
      · simp only [List.mem_cons, ih]
        constructor
        · rintro (h | h | h)
          · exact .inr (.inl h)
          · exact .inl h
          · exact .inr (.inr h)
        · rintro (h | h | h)
          · exact .inr (.inl h)
          · exact .inl h
          · exact .inr (.inr h)
theorem ins_asc {x : Int} : ∀ {l : List Int}, Asc l → Asc (insUp x l)
  | [], _ => by simp [insUp]
  | z :: r, h => by
    obtain ⟨h1, h2⟩ := List.pairwise_cons.mp h
    unfold insUp
    split
    · rename_i hx
      refine List.pairwise_cons.mpr ⟨fun y hy => ?_, h⟩
      rcases List.mem_cons.mp hy with rfl | hy
      · exact hx
      · have := h1 y hy
        omega
    · split
      · exact h
      · refine List.pairwise_cons.mpr ⟨fun y hy => ?_, ins_asc h2⟩
        rcases ins_mem.mp hy with rfl | hy
        · omega
        · exact h1 y hy
theorem sort_mem {y : Int} : ∀ {l : List Int}, y ∈ sortUp l ↔ y ∈ l
  | [] => by simp [sortUp]
  | z :: r => by
    have ih := sort_mem (y := y) (l := r)
    show y ∈ insUp z (sortUp r) ↔ _
    rw [ins_mem, ih, List.mem_cons]
theorem sort_asc : ∀ l : List Int, Asc (sortUp l)
  | [] => List.Pairwise.nil
  | z :: r => ins_asc (sort_asc r)
theorem joined_mem {w : Two} {l r : List Int} {x : Int} : x ∈ joined w l r ↔ w.holds (x ∈ l) (x ∈ r) := by
  cases w with
  | either =>
    show x ∈ sortUp (l ++ r) ↔ _
    rw [sort_mem, List.mem_append]
    rfl
  | both =>
    show x ∈ List.filter _ _ ↔ _
    rw [List.mem_filter, decide_eq_true_eq]
    rfl
  | but =>
    show x ∈ List.filter _ _ ↔ _
    rw [List.mem_filter]
    simp [Two.holds]
theorem joined_asc {w : Two} {l r : List Int} (h : Asc l) : Asc (joined w l r) := by
  cases w with
  | either => exact sort_asc _
  | both => exact h.filter _
  | but => exact h.filter _
theorem drop_filter {l : List Int} (h : Asc l) (e : Int) : l.drop (l.filter fun x => decide (x < e)).length = l.filter fun x => decide (e ≤ x) := by
  refine asc_ext (h.sublist (List.drop_sublist _ _)) (h.filter _) fun x => ?_
  rw [List.mem_filter, decide_eq_true_eq, List.mem_iff_getElem?]
  constructor
  · rintro ⟨i, hi⟩
    rw [List.getElem?_drop] at hi
    refine ⟨List.mem_of_getElem? hi, ?_⟩
    rcases Int.lt_or_le x e with z | z
    · have := (filt_len e h _).mpr ⟨x, hi, z⟩
      omega
    · exact z
  · rintro ⟨hx, hxe⟩
    obtain ⟨i, hi⟩ := List.mem_iff_getElem?.mp hx
    have : ¬ i < (l.filter fun x => decide (x < e)).length := fun z => by
      obtain ⟨y, hy, hye⟩ := (filt_len e h i).mp z
      rw [hi] at hy
      cases hy
      omega
    exact ⟨i - (l.filter fun x => decide (x < e)).length, by rw [List.getElem?_drop, show _ + (i - _) = i by omega]; exact hi⟩
def twoLen (f g : Form) : Int := lcmZ (max 1 f.len) (max 1 g.len)
def twoBegin (f g : Form) : Int := max (startOf f) (startOf g)
def twoFound (w : Two) (f g : Form) : List Int := joined w (allAhead f (twoBegin f g + twoLen f g)) (allAhead g (twoBegin f g + twoLen f g))
theorem gcdZ_dvd (a b : Int) : gcdZ a b ∣ a ∧ gcdZ a b ∣ b := ⟨Int.gcd_dvd_left .., Int.gcd_dvd_right ..⟩
theorem lcmZ_facts {a b : Int} (ha : 0 < a) (hb : 0 < b) : 0 < lcmZ a b ∧ a ∣ lcmZ a b ∧ b ∣ lcmZ a b ∧ ∀ c, a ∣ c → b ∣ c → lcmZ a b ∣ c := by
  obtain ⟨n, rfl⟩ := Int.eq_ofNat_of_zero_le (show 0 ≤ a by omega)
  obtain ⟨m, rfl⟩ := Int.eq_ofNat_of_zero_le (show 0 ≤ b by omega)
  rw [lcmZ_nat]
  have hn : 0 < n := by omega
  have hm : 0 < m := by omega
  refine ⟨by have := lcmN_pos hn hm; omega, Int.natCast_dvd_natCast.mpr (lcmN_left n m), Int.natCast_dvd_natCast.mpr (lcmN_right n m), fun c h1 h2 => ?_⟩
  have e : lcmN n m = Nat.lcm n m := by
    unfold lcmN Nat.lcm
    have hg : Nat.gcd n m ∣ n := Nat.gcd_dvd_left n m
    rw [Nat.mul_comm n m, Nat.mul_div_assoc _ hg, Nat.mul_comm]
  rw [e]
  have h1' : n ∣ c.natAbs := Int.ofNat_dvd_left.mp h1
  have h2' : m ∣ c.natAbs := Int.ofNat_dvd_left.mp h2
  exact Int.ofNat_dvd_left.mpr (Nat.lcm_dvd h1' h2')
theorem ofTwo_eq {w : Two} {f g : Form} : ofTwo w f g = if twoLen f g > 5040 then none else
    some (settled ((twoFound w f g).filter fun x => decide (x < twoBegin f g)) ((twoFound w f g).drop ((twoFound w f g).filter fun x => decide (x < twoBegin f g)).length) (twoLen f g)) := rfl
theorem two_pos {f g : Form} : 0 < twoLen f g := (lcmZ_facts (show 0 < max 1 f.len by omega) (show 0 < max 1 g.len by omega)).1
theorem two_per {f g : Form} (F : WF f) (G : WF g) : Per f (startOf f) (twoLen f g) ∧ Per g (startOf g) (twoLen f g) := by
  obtain ⟨h0, h1, h2, _⟩ := lcmZ_facts (show 0 < max 1 f.len by omega) (show 0 < max 1 g.len by omega)
  refine ⟨start_per F h0 fun hr => ?_, start_per G h0 fun hr => ?_⟩
  · have := (F.rnd hr).pos
    exact Int.dvd_trans (by rw [show max 1 f.len = f.len by omega]; exact Int.dvd_refl _) h1
  · have := (G.rnd hr).pos
    exact Int.dvd_trans (by rw [show max 1 g.len = g.len by omega]; exact Int.dvd_refl _) h2
theorem two_found {w : Two} {f g : Form} (F : WF f) (G : WF g) {x : Int} (hx : x < twoBegin f g + twoLen f g) : x ∈ twoFound w f g ↔ w.holds (tick f x) (tick g x) := by
  unfold twoFound
  rw [joined_mem, all_mem F, all_mem G]
  exact holds_congr (by simp [hx]) (by simp [hx])
theorem found_lt {w : Two} {f g : Form} (F : WF f) (G : WF g) {x : Int} (h : x ∈ twoFound w f g) : 0 ≤ x ∧ x < twoBegin f g + twoLen f g := by
  unfold twoFound at h
  rw [joined_mem, all_mem F, all_mem G] at h
  cases w with
  | either =>
    rcases h with h | h
    · exact ⟨tick_nn F h.1, h.2⟩
    · exact ⟨tick_nn G h.1, h.2⟩
  | both => exact ⟨tick_nn F h.1.1, h.1.2⟩
  | but => exact ⟨tick_nn F h.1.1, h.1.2⟩
theorem two_raw {w : Two} {f g : Form} (F : WF f) (G : WF g) (hl : twoLen f g ≤ 5040) :
    (((twoFound w f g).filter fun x => decide (twoBegin f g ≤ x)) ≠ [] → WF ⟨(twoFound w f g).filter fun x => decide (x < twoBegin f g), (twoFound w f g).filter fun x => decide (twoBegin f g ≤ x), twoLen f g⟩) ∧
    ∀ x, tick ⟨(twoFound w f g).filter fun x => decide (x < twoBegin f g), (twoFound w f g).filter fun x => decide (twoBegin f g ≤ x), twoLen f g⟩ x ↔ w.holds (tick f x) (tick g x) := by
  have hasc : Asc (twoFound w f g) := joined_asc (all_asc F _)
  have hp := two_pos (f := f) (g := g)
  obtain ⟨pf, pg⟩ := two_per F G
  have hb1 : startOf f ≤ twoBegin f g := by unfold twoBegin; omega
  have hb2 : startOf g ≤ twoBegin f g := by unfold twoBegin; omega
  have hb0 := start_nn F
  have hfl := fun x => found_lt (w := w) F G (x := x)
  have hfm := fun x => two_found (w := w) F G (x := x)
  generalize twoFound w f g = found at *
  generalize twoBegin f g = B at *
  generalize twoLen f g = L at *
  constructor
  · intro hne
    refine ⟨List.pairwise_append.mpr ⟨hasc.filter _, hasc.filter _, fun x hx y hy => ?_⟩, fun x hx => ?_, fun z => absurd z hne, fun _ => ⟨hasc.filter _, hp, ?_⟩, hl⟩
    · have h1 := (List.mem_filter.mp hx).2
      have h2 := (List.mem_filter.mp hy).2
      simp only [decide_eq_true_eq] at h1 h2
      omega
    · rcases List.mem_append.mp hx with hx | hx
      · exact (hfl _ (List.mem_filter.mp hx).1).1
      · exact (hfl _ (List.mem_filter.mp hx).1).1
    · obtain ⟨a1, a2⟩ := List.mem_filter.mp (lastD_mem hne)
      obtain ⟨b1, b2⟩ := List.mem_filter.mp (headD_mem hne)
      have := (hfl _ a1).2
      simp only [decide_eq_true_eq] at a2 b2
      dsimp only
      omega
  · intro x
    rw [tick_iff]
    simp only [List.mem_filter, decide_eq_true_eq]
    constructor
    · rintro (⟨h1, h2⟩ | ⟨y, ⟨h1, h2⟩, k, rfl⟩)
      · exact (hfm x (by omega)).mp h1
      · have := (hfm y (hfl y h1).2).mp h1
        exact (holds_congr (pf.mul (by omega) k) (pg.mul (by omega) k)).mp this
    · intro h
      rcases Int.lt_or_le x B with z | z
      · exact .inl ⟨(hfm x (by omega)).mpr h, z⟩
      · have hk := Int.mul_ediv_add_emod (x - B) L
        have hm0 := Int.emod_nonneg (x - B) (show L ≠ 0 by omega)
        have hm1 := Int.emod_lt_of_pos (x - B) hp
        obtain ⟨k, hk2⟩ := Int.eq_ofNat_of_zero_le (Int.ediv_nonneg (show 0 ≤ x - B by omega) (show 0 ≤ L by omega))
        rw [hk2, Int.mul_comm] at hk
        have e : x = (B + (x - B) % L) + (k : Int) * L := by omega
        refine .inr ⟨B + (x - B) % L, ⟨(hfm _ (by omega)).mpr ?_, by omega⟩, k, e⟩
        rw [e] at h
        exact (holds_congr (pf.mul (by omega) k) (pg.mul (by omega) k)).mpr h
theorem ofTwo_spec {w : Two} {f g h : Form} (F : WF f) (G : WF g) (e : ofTwo w f g = some h) : WF h ∧ Min h ∧ (∀ x, tick h x ↔ w.holds (tick f x) (tick g x)) ∧ (h.round ≠ [] → h.len ∣ twoLen f g) := by
  rw [ofTwo_eq] at e
  by_cases hl : twoLen f g > 5040
  · rw [if_pos hl] at e; cases e
  rw [if_neg hl] at e
  have hasc : Asc (twoFound w f g) := joined_asc (all_asc F _)
  rw [drop_filter hasc] at e
  obtain ⟨R, T⟩ := two_raw (w := w) F G (by omega)
  cases e
  refine ⟨?_, settled_min, fun x => by rw [settled_tick R]; exact T x, fun hr => ?_⟩
  · by_cases hne : ((twoFound w f g).filter fun x => decide (twoBegin f g ≤ x)) = []
    · rw [hne, settled_nil]
      exact WF.nil (hasc.filter _) fun x hx => (found_lt F G (List.mem_filter.mp hx).1).1
    · exact (settled_wf hne (R hne)).1
  · by_cases hne : ((twoFound w f g).filter fun x => decide (twoBegin f g ≤ x)) = []
    · rw [hne, settled_nil] at hr
      exact absurd rfl hr
    · exact settled_dvd hne

/-! ### led -/
theorem first_get {f : Form} : ∀ (n i j : Nat), (firstTicks f n i)[j]? = if j < n then tk f (i + j) else none
  | 0, i, j => by simp [firstTicks]
  | n + 1, i, j => by
    unfold firstTicks
    rw [tickAt_tk]
    cases h : tk f i with
    | none =>
      have hn : tk f (i + j) = none := by
        cases h2 : tk f (i + j) with
        | none => rfl
        | some y =>
          obtain ⟨x, hx⟩ := tk_down h2 (show i ≤ i + j by omega)
          rw [h] at hx
          cases hx
      simp [hn]
    | some x =>
      cases j with
      | zero => simp [h]
      | succ j =>
        dsimp only
        rw [List.getElem?_cons_succ, first_get n (i + 1) j, show i + 1 + j = i + (j + 1) by omega]
        by_cases hj : j < n
        · rw [if_pos hj, if_pos (by omega)]
        · rw [if_neg hj, if_neg (by omega)]
def mineOf (f : Form) (many : Nat) : List Int := firstTicks f many 0
theorem mine_get {f : Form} {many j : Nat} : (mineOf f many)[j]? = if j < many then tk f j else none := by
  have := first_get (f := f) many 0 j
  rw [Nat.zero_add] at this
  exact this
theorem mine_mem {f : Form} {many : Nat} {x : Int} : x ∈ mineOf f many ↔ ∃ i, i < many ∧ tk f i = some x := by
  rw [List.mem_iff_getElem?]
  constructor
  · rintro ⟨i, h⟩
    rw [mine_get] at h
    by_cases hi : i < many
    · rw [if_pos hi] at h
      exact ⟨i, hi, h⟩
    · rw [if_neg hi] at h; cases h
  · rintro ⟨i, hi, h⟩
    exact ⟨i, by rw [mine_get, if_pos hi]; exact h⟩
theorem mine_asc {f : Form} (F : WF f) (many : Nat) : Asc (mineOf f many) := asc_of_get fun i j x y hi hj hij => by
  rw [mine_get] at hi hj
  split at hi
  · split at hj
    · exact tk_mono F hi hj hij
    · cases hj
  · cases hi
/-- the last of the first ones -/
def lastOf (f : Form) (many : Nat) : Int := if mineOf f many ≠ [] then (mineOf f many).getLastD 0 else -1
theorem last_le {f : Form} (F : WF f) {many : Nat} {x : Int} (h : x ∈ mineOf f many) : x ≤ lastOf f many := by
  have hne : mineOf f many ≠ [] := fun z => by rw [z] at h; cases h
  unfold lastOf
  rw [if_pos hne, lastD_eq hne]
  obtain ⟨i, hi, rfl⟩ := List.getElem_of_mem h
  by_cases h2 : i = (mineOf f many).length - 1
  · rw [← h2, getD_eq hi]; omega
  · have := asc_get (mine_asc F many) (show i < (mineOf f many).length - 1 by omega) (by omega)
    rw [getD_eq hi] at this
    omega
def atOf (f : Form) (many : Nat) (g : Form) (first : Nat) : Nat := if mineOf f many ≠ [] then max first (cnt g (lastOf f many + 1)) else first
theorem at_eq {f g : Form} (G : WF g) {many first : Nat} : (if mineOf f many ≠ [] then max (first : Int) (countAhead g ((mineOf f many).getLastD 0 + 1)) else (first : Int)) = ((atOf f many g first : Nat) : Int) := by
  unfold atOf
  by_cases h : mineOf f many ≠ []
  · rw [if_pos h, if_pos h, cnt_eq G]
    unfold lastOf
    rw [if_pos h]
    omega
  · rw [if_neg h, if_neg h]
theorem at_le {f g : Form} (F : WF f) (G : WF g) {many first i : Nat} {x : Int} (h : tk g i = some x) : atOf f many g first ≤ i ↔ first ≤ i ∧ lastOf f many < x := by
  unfold atOf
  by_cases hm : mineOf f many ≠ []
  · rw [if_pos hm]
    have := cnt_spec G (e := lastOf f many + 1) (i := i)
    have h2 : i < cnt g (lastOf f many + 1) ↔ x < lastOf f many + 1 := this.trans ⟨fun ⟨y, hy, hye⟩ => by rw [h] at hy; cases hy; exact hye, fun z => ⟨x, h, z⟩⟩
    omega
  · rw [if_neg hm]
    have : lastOf f many = -1 := by unfold lastOf; rw [if_neg hm]
    have h0 := tk_nn G h
    omega
theorem led_eq {f g : Form} (G : WF g) {many first : Nat} : ledForm f many g first = if g.round = [] then ⟨mineOf f many ++ g.front.drop (atOf f many g first), [], 0⟩ else
    settled (mineOf f many ++ g.front.drop (atOf f many g first)) ((List.range g.round.length).map fun j => tickZ g ((max (atOf f many g first) g.front.length + j : Nat) : Int)) g.len := by
  unfold ledForm
  dsimp only
  rw [show firstTicks f many 0 = mineOf f many from rfl, at_eq G, Int.toNat_natCast]
  by_cases hr : g.round = []
  · rw [if_pos hr, if_pos hr]
  · rw [if_neg hr, if_neg hr]
    unfold rangeZ
    rw [List.map_map]
    congr 2
    funext j
    show tickZ g (max ((atOf f many g first : Nat) : Int) (g.front.length : Int) + (j : Int)) = _
    congr 1
    omega
theorem drop_tick {g : Form} {at_ : Nat} {x : Int} : x ∈ g.front.drop at_ ↔ ∃ i, at_ ≤ i ∧ i < g.front.length ∧ tk g i = some x := by
  rw [List.mem_iff_getElem?]
  constructor
  · rintro ⟨i, h⟩
    rw [List.getElem?_drop] at h
    have := (List.getElem?_eq_some_iff.mp h).1
    exact ⟨at_ + i, by omega, this, by rw [tk_front this]; exact h⟩
  · rintro ⟨i, h1, h2, h3⟩
    rw [tk_front h2] at h3
    exact ⟨i - at_, by rw [List.getElem?_drop, show at_ + (i - at_) = i by omega]; exact h3⟩
/-- a round turned: so many ticks from one on -/
theorem turned_tick {g : Form} (h : g.round ≠ []) {b : Nat} (hb : g.front.length ≤ b) (i : Nat) : tk g (b + i) = some (rt ((List.range g.round.length).map fun j => tickZ g ((b + j : Nat) : Int)) g.len i) := by
  have hn : 0 < g.round.length := List.length_pos_iff.mpr h
  obtain ⟨c, rfl⟩ : ∃ c, b = g.front.length + c := ⟨b - g.front.length, by omega⟩
  unfold rt
  rw [List.length_map, List.length_range]
  have hi := Nat.mod_lt i hn
  rw [List.getD_eq_getElem?_getD, List.getElem?_map, List.getElem?_range hi]
  show _ = some (tickZ g ((g.front.length + c + i % g.round.length : Nat) : Int) + _)
  rw [tickZ_tk (x := rt g.round g.len (c + i % g.round.length)) (by rw [Nat.add_assoc]; exact tk_round h _), Nat.add_assoc, tk_round h]
  have := rt_mul (len := g.len) h (c + i % g.round.length) (i / g.round.length)
  rw [← this]
  congr 2
  have := Nat.mod_add_div i g.round.length
  rw [Nat.mul_comm]
  omega
theorem led_raw {f g : Form} (F : WF f) (G : WF g) {many first : Nat} (h : g.round ≠ []) :
    WF ⟨mineOf f many ++ g.front.drop (atOf f many g first), (List.range g.round.length).map fun j => tickZ g ((max (atOf f many g first) g.front.length + j : Nat) : Int), g.len⟩ ∧
    ∀ x, tick ⟨mineOf f many ++ g.front.drop (atOf f many g first), (List.range g.round.length).map fun j => tickZ g ((max (atOf f many g first) g.front.length + j : Nat) : Int), g.len⟩ x ↔ x ∈ mineOf f many ∨ ∃ i, atOf f many g first ≤ i ∧ tk g i = some x := by
  have hn : 0 < g.round.length := List.length_pos_iff.mpr h
  have hb : g.front.length ≤ max (atOf f many g first) g.front.length := by omega
  have hb2 : atOf f many g first ≤ max (atOf f many g first) g.front.length := by omega
  have hturn := turned_tick h hb
  have hat := fun i x => at_le (first := first) F G (many := many) (i := i) (x := x)
  have hor : max (atOf f many g first) g.front.length = atOf f many g first ∨ max (atOf f many g first) g.front.length = g.front.length := by omega
  generalize hB : max (atOf f many g first) g.front.length = b at *
  generalize atOf f many g first = a at *
  have hlen : ((List.range g.round.length).map fun j => tickZ g ((b + j : Nat) : Int)).length = g.round.length := by simp
  have hget : ∀ j, j < g.round.length → ((List.range g.round.length).map fun j => tickZ g ((b + j : Nat) : Int))[j]? = tk g (b + j) := fun j hj => by
    obtain ⟨x, hx⟩ : ∃ x, tk g (b + j) = some x := ⟨_, hturn j⟩
    rw [List.getElem?_map, List.getElem?_range hj]
    show some (tickZ g ((b + j : Nat) : Int)) = _
    rw [tickZ_tk hx, hx]
  have hmem : ∀ x, x ∈ ((List.range g.round.length).map fun j => tickZ g ((b + j : Nat) : Int)) ↔ ∃ j, j < g.round.length ∧ tk g (b + j) = some x := fun x => by
    rw [List.mem_iff_getElem?]
    constructor
    · rintro ⟨j, hj⟩
      have hjl := (List.getElem?_eq_some_iff.mp hj).1
      rw [hlen] at hjl
      rw [hget j hjl] at hj
      exact ⟨j, hjl, hj⟩
    · rintro ⟨j, hj, hx⟩
      exact ⟨j, by rw [hget j hj]; exact hx⟩
  have hrne : ((List.range g.round.length).map fun j => tickZ g ((b + j : Nat) : Int)) ≠ [] := fun z => by rw [z] at hlen; simp at hlen; omega
  generalize ((List.range g.round.length).map fun j => tickZ g ((b + j : Nat) : Int)) = t at *
  have ht : Asc t := asc_of_get fun i j x y hi hj hij => by
    have h1 := (List.getElem?_eq_some_iff.mp hi).1
    have h2 := (List.getElem?_eq_some_iff.mp hj).1
    rw [hget i (by omega)] at hi
    rw [hget j (by omega)] at hj
    exact tk_mono G hi hj (by omega)
  have hfd : Asc (g.front.drop a) := (List.pairwise_append.mp G.asc).1.sublist (List.drop_sublist _ _)
  have late : ∀ i x, a ≤ i → tk g i = some x → lastOf f many < x := fun i x h1 h2 => ((hat i x h2).mp h1).2
  constructor
  · refine ⟨List.pairwise_append.mpr ⟨List.pairwise_append.mpr ⟨mine_asc F many, hfd, fun x hx y hy => ?_⟩, ht, fun x hx y hy => ?_⟩, fun x hx => ?_, fun z => absurd z hrne, fun _ => ⟨ht, (G.rnd h).pos, ?_⟩, G.short⟩
    · obtain ⟨i, h1, h2, h3⟩ := drop_tick.mp hy
      have := last_le F hx
      have := late i y h1 h3
      omega
    · obtain ⟨j, hj, hy⟩ := (hmem y).mp hy
      rcases List.mem_append.mp hx with hx | hx
      · have := last_le F hx
        have := late _ y (by omega) hy
        omega
      · obtain ⟨i, h1, h2, h3⟩ := drop_tick.mp hx
        exact tk_mono G h3 hy (by omega)
    · rcases List.mem_append.mp hx with hx | hx
      · rcases List.mem_append.mp hx with hx | hx
        · obtain ⟨i, _, h2⟩ := mine_mem.mp hx
          exact tk_nn F h2
        · obtain ⟨i, _, _, h3⟩ := drop_tick.mp hx
          exact tk_nn G h3
      · obtain ⟨j, _, hy⟩ := (hmem x).mp hx
        exact tk_nn G hy
    · have e1 := hturn (t.length - 1)
      have e2 := hturn (0 + 1 * t.length)
      rw [rt_lt (show t.length - 1 < t.length by omega)] at e1
      rw [rt_mul hrne, rt_lt (show 0 < t.length by omega)] at e2
      have := tk_mono G e1 e2 (by omega)
      dsimp only
      rw [lastD_eq hrne, headD_eq]
      omega
  · intro x
    have e : tick ⟨mineOf f many ++ g.front.drop a, t, g.len⟩ x ↔ x ∈ mineOf f many ++ g.front.drop a ∨ ∃ j, x = rt t g.len j := by
      rw [tick_iff]
      dsimp only
      constructor
      · rintro (h | ⟨y, hy, k, rfl⟩)
        · exact .inl h
        · obtain ⟨j, hj, rfl⟩ := List.getElem_of_mem hy
          exact .inr ⟨j + k * t.length, by rw [rt_mul hrne, rt_lt hj, getD_eq hj]⟩
      · rintro (h | ⟨j, rfl⟩)
        · exact .inl h
        · exact .inr ⟨_, getD_mem (Nat.mod_lt j (by omega)), j / t.length, rfl⟩
    rw [e, List.mem_append, drop_tick]
    constructor
    · rintro ((h | ⟨i, h1, h2, h3⟩) | ⟨j, rfl⟩)
      · exact .inl h
      · exact .inr ⟨i, h1, h3⟩
      · exact .inr ⟨b + j, by omega, hturn j⟩
    · rintro (h | ⟨i, h1, h2⟩)
      · exact .inl (.inl h)
      · rcases Nat.lt_or_ge i b with z | z
        · refine .inl (.inr ⟨i, h1, by omega, h2⟩)
        · refine .inr ⟨i - b, ?_⟩
          have := hturn (i - b)
          rw [show b + (i - b) = i by omega, h2] at this
          exact Option.some.inj this
theorem led_spec {f g : Form} (F : WF f) (G : WF g) {many first : Nat} : WF (ledForm f many g first) ∧ Min (ledForm f many g first) ∧
    (∀ x, tick (ledForm f many g first) x ↔ x ∈ mineOf f many ∨ ∃ i, first ≤ i ∧ lastOf f many < x ∧ tk g i = some x) ∧ ((ledForm f many g first).round ≠ [] → g.round ≠ [] ∧ (ledForm f many g first).len ∣ g.len) := by
  have conv : ∀ x, (x ∈ mineOf f many ∨ ∃ i, atOf f many g first ≤ i ∧ tk g i = some x) ↔ (x ∈ mineOf f many ∨ ∃ i, first ≤ i ∧ lastOf f many < x ∧ tk g i = some x) := fun x => by
    constructor
    · rintro (h | ⟨i, h1, h2⟩)
      · exact .inl h
      · obtain ⟨a, b⟩ := (at_le F G h2).mp h1
        exact .inr ⟨i, a, b, h2⟩
    · rintro (h | ⟨i, h1, h2, h3⟩)
      · exact .inl h
      · exact .inr ⟨i, (at_le F G h3).mpr ⟨h1, h2⟩, h3⟩
  rw [led_eq G]
  by_cases hr : g.round = []
  · rw [if_pos hr]
    refine ⟨WF.nil (List.pairwise_append.mpr ⟨mine_asc F many, (List.pairwise_append.mp G.asc).1.sublist (List.drop_sublist _ _), fun x hx y hy => ?_⟩) fun x hx => ?_, fun z => absurd rfl z, fun x => ?_, fun z => absurd rfl z⟩
    · obtain ⟨i, h1, h2, h3⟩ := drop_tick.mp hy
      have := last_le F hx
      have := ((at_le F G h3).mp h1).2
      omega
    · rcases List.mem_append.mp hx with hx | hx
      · obtain ⟨i, _, h2⟩ := mine_mem.mp hx
        exact tk_nn F h2
      · obtain ⟨i, _, _, h3⟩ := drop_tick.mp hx
        exact tk_nn G h3
    · rw [← conv, tick_iff]
      simp only [List.not_mem_nil, false_and, exists_false, or_false, List.mem_append, drop_tick]
      constructor
      · rintro (h | ⟨i, h1, h2, h3⟩)
        · exact .inl h
        · exact .inr ⟨i, h1, h3⟩
      · rintro (h | ⟨i, h1, h2⟩)
        · exact .inl h
        · refine .inr ⟨i, h1, ?_, h2⟩
          rcases Nat.lt_or_ge i g.front.length with z | z
          · exact z
          · rw [tk_end hr z] at h2; cases h2
  · rw [if_neg hr]
    obtain ⟨R, T⟩ := led_raw (many := many) (first := first) F G hr
    have hrne : ((List.range g.round.length).map fun j => tickZ g ((max (atOf f many g first) g.front.length + j : Nat) : Int)) ≠ [] := fun z => by
      have := congrArg List.length z
      simp at this
      exact hr this
    exact ⟨(settled_wf hrne R).1, settled_min, fun x => by rw [settled_tick fun _ => R, T x, conv], fun _ => ⟨hr, settled_dvd hrne⟩⟩
end TD

/-! The laws' own tellings: where a beat goes round, all its ticks below a moment. -/
namespace TD

def bd : Beat → Nat × Nat
  | .source => (0, 1)
  | .every n _ b => ((bd b).1, (bd b).2 * n)
  | .gate bits b => ((bd b).1, (bd b).2 * bits.length)
  | .later m b => ((bd b).1 + m, (bd b).2)
  | .two _ a b => (max (bd a).1 (bd b).1, lcmN (bd a).2 (bd b).2)
  | .led a many b first => (max ((bd a).1 + (bd a).2 * (many + 1)) ((bd b).1 + (bd b).2 * (first + 1)), (bd b).2)
/-- the first ones of a list, and of another one those behind them -/
def ledList (mine theirs : List Int) (e : Int) : List Int :=
  (mine ++ theirs.filter fun x => decide ((if mine ≠ [] then mine.getLastD 0 else -1) < x)).filter fun x => decide (x < e)
def lt : Beat → Int → List Int
  | .source, e => rangeZ 0 e.toNat
  | .every n k b, e => keptFrom (everyBits n k) 0 (lt b e)
  | .gate bits b, e => keptFrom bits 0 (lt b e)
  | .later m b, e => (lt b (max 0 (e - (m : Int)))).map (· + (m : Int))
  | .two w a b, e => joined w (lt a e) (lt b e)
  | .led a many b first, e => ledList ((lt a (((bd a).1 + (bd a).2 * (many + 1) : Nat) : Int)).take many) ((lt b e).drop first) e
theorem range_mem {lo : Int} {n : Nat} {x : Int} : x ∈ rangeZ lo n ↔ lo ≤ x ∧ x < lo + (n : Int) := by
  unfold rangeZ
  rw [List.mem_map]
  constructor
  · rintro ⟨i, hi, rfl⟩
    have := List.mem_range.mp hi
    omega
  · intro h
    exact ⟨(x - lo).toNat, List.mem_range.mpr (by omega), by omega⟩
theorem range_asc {lo : Int} {n : Nat} : Asc (rangeZ lo n) := List.pairwise_map.mpr (List.pairwise_lt_range.imp fun {a b} h => by omega)
theorem every_len' {n k : Nat} (h : k < n) : (everyBits n k).length = n := by
  unfold everyBits
  simp
  omega
theorem bd_pos : ∀ {b : Beat}, b.ok → 1 ≤ (bd b).2
  | .source, _ => Nat.le_refl 1
  | .every n k b, h => Nat.mul_pos (bd_pos h.2.2.2) (by have := h.1; omega)
  | .gate bits b, h => Nat.mul_pos (bd_pos h.2.2) (by have := h.1; omega)
  | .later m b, h => (bd_pos (b := b) h.2 : 1 ≤ (bd b).2)
  | .two w a b, h => lcmN_pos (bd_pos h.1) (bd_pos h.2)
  | .led a many b first, h => (bd_pos (b := b) h.2.2.2 : 1 ≤ (bd b).2)
structure Sem (b : Beat) (f : Form) : Prop where
  wf : WF f
  late : lateOf f ≤ 5040
  min : Min f
  dvd : f.round ≠ [] → f.len ∣ ((bd b).2 : Int)
  per : Per f ((bd b).1 : Int) ((bd b).2 : Int)
  ticks : ∀ e, lt b e = allAhead f e
theorem Per.shifts {f : Form} {B W : Int} (p : Per f B W) (F : WF f) {i : Nat} {x : Int} (hx : tk f i = some x) (hB : B ≤ x) : ∀ j : Nat, tk f (i + j * (cnt f (B + W) - cnt f B)) = some (x + (j : Int) * W)
  | 0 => by simpa using hx
  | j + 1 => by
    have hw := p.w1
    have h0 : 0 ≤ (j : Int) * W := Int.mul_nonneg (by omega) (by omega)
    have := p.shift F _ _ (p.shifts F hx hB j) (by omega)
    rw [Nat.succ_mul, ← Nat.add_assoc, this]
    congr 1
    push_cast
    rw [Int.add_mul]
    omega
/-- each turn has a tick -/
theorem Per.count {f : Form} {B W : Int} (p : Per f B W) (F : WF f) (hr : f.round ≠ []) (j : Nat) : j ≤ cnt f (B + W * (j : Int)) := by
  cases j with
  | zero => omega
  | succ j =>
    obtain ⟨x, ⟨i, hi⟩, h1, h2⟩ := p.goes F hr
    have hw := p.w1
    have s1 : 1 ≤ cnt f (B + W) - cnt f B := by
      have a := (cnt_spec F).mpr ⟨x, hi, h2⟩
      have b : ¬ i < cnt f B := fun z => by
        obtain ⟨y, hy, hye⟩ := (cnt_spec F).mp z
        rw [hi] at hy
        cases hy
        omega
      omega
    have hs := p.shifts F hi h1 j
    have hlt : x + (j : Int) * W < B + W * ((j + 1 : Nat) : Int) := by
      push_cast
      rw [Int.mul_add, Int.mul_one, Int.mul_comm W]
      omega
    have := (cnt_spec F).mpr ⟨_, hs, hlt⟩
    have : j * 1 ≤ j * (cnt f (B + W) - cnt f B) := Nat.mul_le_mul_left _ s1
    omega
/-- a tick so many turns behind the begin has a number that is no less -/
theorem Per.late {f : Form} {B W : Int} (p : Per f B W) (F : WF f) {j i : Nat} {x : Int} (hx : tk f i = some x) (h : B + W * (j : Int) ≤ x) : j ≤ i := by
  have hw := p.w1
  have h0 : 0 ≤ W * (j : Int) := Int.mul_nonneg (by omega) (by omega)
  have hr : f.round ≠ [] := fun z => by
    have := p.ends F z x ⟨i, hx⟩
    omega
  have h1 := p.count F hr j
  have : ¬ i < cnt f (B + W * (j : Int)) := fun z => by
    obtain ⟨y, hy, hye⟩ := (cnt_spec F).mp z
    rw [hx] at hy
    cases hy
    omega
  omega
theorem checked_ok {f : Form} (h : lateOf f ≤ 5040) : checked f = some f := by
  unfold checked
  rw [if_neg (by omega)]
theorem gate_per {f g : Form} {bits : List Bool} {B W : Int} (F : WF f) (p : Per f B W) (hb : 1 ≤ bits.length) (T : ∀ x, tick g x ↔ ∃ i, tk f i = some x ∧ bitAt bits (i : Int) = true) : Per g B (W * (bits.length : Int)) := by
  have hw := p.w1
  have h0 : 0 ≤ W * (bits.length : Int) := Int.mul_nonneg (by omega) (by omega)
  have h1 : 1 * 1 ≤ W * (bits.length : Int) := Int.mul_le_mul hw (by omega) (by omega) (by omega)
  refine ⟨p.b0, by omega, fun x hx => ?_⟩
  have hbit : ∀ i, bitAt bits ((i + bits.length * (cnt f (B + W) - cnt f B) : Nat) : Int) = bitAt bits (i : Int) := fun i => by
    rw [Nat.mul_comm, bit_mod (Nat.dvd_refl _)]
  rw [T, T]
  constructor
  · rintro ⟨i, h1, h2⟩
    refine ⟨i + bits.length * (cnt f (B + W) - cnt f B), ?_, by rw [hbit]; exact h2⟩
    rw [Int.mul_comm]
    exact p.shifts F h1 hx bits.length
  · rintro ⟨i, h1, h2⟩
    rw [Int.mul_comm] at h1
    obtain ⟨j, hj⟩ := (p.mul hx bits.length).mpr ⟨i, h1⟩
    have := p.shifts F hj hx bits.length
    have e := tk_inj F this h1
    refine ⟨j, hj, ?_⟩
    rw [← e, hbit] at h2
    exact h2
theorem gate_ticks {f g : Form} {bits : List Bool} (F : WF f) (G : WF g) (T : ∀ x, tick g x ↔ ∃ i, tk f i = some x ∧ bitAt bits (i : Int) = true) (e : Int) : keptFrom bits 0 (allAhead f e) = allAhead g e := by
  refine asc_ext ((all_asc F e).sublist (kept_sub _ _ _)) (all_asc G e) fun x => ?_
  rw [kept_mem, all_mem G, T]
  simp only [Nat.zero_add, all_get F]
  constructor
  · rintro ⟨i, ⟨h1, h2⟩, h3⟩
    exact ⟨⟨i, h1, h3⟩, h2⟩
  · rintro ⟨⟨i, h1, h3⟩, h2⟩
    exact ⟨i, ⟨h1, h2⟩, h3⟩
theorem gate_sem {b : Beat} {f : Form} {bits : List Bool} {c : Beat} (S : Sem b f) (hb : 1 ≤ bits.length) (hw : 1 ≤ (bd b).2) (hs : (bd b).1 + (bd b).2 * bits.length ≤ 5040) (e1 : (bd c).1 = (bd b).1) (e2 : (bd c).2 = (bd b).2 * bits.length)
    (e3 : ∀ e, lt c e = keptFrom bits 0 (lt b e)) (e4 : fm c = (fm b).bind fun f => (gated f bits).bind checked) (hf : fm b = some f) : ∃ g, fm c = some g ∧ Sem c g := by
  obtain ⟨g, hg, hd⟩ := gated_some (W := ((bd b).2 : Int)) S.wf hb (by omega) S.dvd (by rw [← Int.natCast_mul]; omega)
  have T := fun x => gated_tick (x := x) S.wf hb hg
  have G := gated_wf S.wf hb hg
  have P := gate_per S.wf S.per hb T
  have L := min_late P G (gated_min hg) (by rw [← Int.natCast_mul]; omega)
  refine ⟨g, ?_, G, L, gated_min hg, by rw [e2]; push_cast; exact hd, by rw [e1, e2]; push_cast; exact P, fun e => by rw [e3, S.ticks]; exact gate_ticks S.wf G T e⟩
  rw [e4, hf]
  show (gated f bits).bind checked = some g
  rw [hg]
  exact checked_ok L
theorem source_tick {x : Int} : tick ⟨[], [0], 1⟩ x ↔ 0 ≤ x := by
  rw [tick_iff]
  constructor
  · rintro (h | ⟨y, hy, k, rfl⟩)
    · cases h
    · rw [List.mem_singleton.mp hy]
      show (0 : Int) ≤ 0 + (k : Int) * 1
      omega
  · intro h
    exact .inr ⟨0, List.mem_singleton.mpr rfl, x.toNat, by show x = 0 + (x.toNat : Int) * 1; omega⟩
theorem source_wf' : WF ⟨[], [0], 1⟩ := ⟨by simp, by simp, fun z => (nomatch z), fun _ => ⟨by simp, by show (0 : Int) < 1; decide, by show (0 : Int) < 0 + 1; decide⟩, by show (1 : Int) ≤ 5040; decide⟩
theorem two_dvd {f g : Form} {U V : Int} (F : WF f) (G : WF g) (h1 : f.round ≠ [] → f.len ∣ U) (h2 : g.round ≠ [] → g.len ∣ V) {c : Int} (hU : U ∣ c) (hV : V ∣ c) : twoLen f g ∣ c := by
  refine (lcmZ_facts (show 0 < max 1 f.len by omega) (show 0 < max 1 g.len by omega)).2.2.2 c ?_ ?_
  · by_cases hr : f.round = []
    · rw [F.len0 hr]
      exact Int.one_dvd c
    · have := (F.rnd hr).pos
      rw [show max 1 f.len = f.len by omega]
      exact Int.dvd_trans (h1 hr) hU
  · by_cases hr : g.round = []
    · rw [G.len0 hr]
      exact Int.one_dvd c
    · have := (G.rnd hr).pos
      rw [show max 1 g.len = g.len by omega]
      exact Int.dvd_trans (h2 hr) hV
theorem Per.wider {f : Form} {B W B' : Int} (p : Per f B W) (h : B ≤ B') {k : Nat} (hk : 1 ≤ k) : Per f B' (W * (k : Int)) := by
  have hw := p.w1
  have hb := p.b0
  have h1 : 1 * 1 ≤ W * (k : Int) := Int.mul_le_mul hw (by omega) (by omega) (by omega)
  exact ⟨by omega, by omega, fun x hx => by rw [Int.mul_comm]; exact p.mul (by omega) k⟩
theorem mine_lt {f : Form} {B W : Int} (p : Per f B W) (F : WF f) {many : Nat} {x : Int} (h : x ∈ mineOf f many) : x < B + W * ((many + 1 : Nat) : Int) := by
  obtain ⟨i, hi, hx⟩ := mine_mem.mp h
  rcases Int.lt_or_le x (B + W * ((many + 1 : Nat) : Int)) with z | z
  · exact z
  · have := p.late F hx z
    omega
theorem last_lt {f : Form} {B W : Int} (p : Per f B W) (F : WF f) {many : Nat} : lastOf f many < B + W * ((many + 1 : Nat) : Int) := by
  unfold lastOf
  by_cases h : mineOf f many ≠ []
  · rw [if_pos h]
    exact mine_lt p F (lastD_mem h)
  · rw [if_neg h]
    have h0 : 0 ≤ W * ((many + 1 : Nat) : Int) := Int.mul_nonneg (by have := p.w1; omega) (by omega)
    have := p.b0
    omega
theorem take_mine {f : Form} {B W : Int} (p : Per f B W) (F : WF f) {many : Nat} : (allAhead f (B + W * ((many + 1 : Nat) : Int))).take many = mineOf f many := by
  refine List.ext_getElem? fun j => ?_
  rw [List.getElem?_take, mine_get]
  by_cases hj : j < many
  · rw [if_pos hj, if_pos hj]
    refine Option.ext fun x => ?_
    rw [all_get F]
    exact ⟨fun h => h.1, fun h => ⟨h, mine_lt p F (mine_mem.mpr ⟨j, hj, h⟩)⟩⟩
  · rw [if_neg hj, if_neg hj]
theorem drop_all {g : Form} (G : WF g) {e x : Int} {first : Nat} : x ∈ (allAhead g e).drop first ↔ ∃ i, first ≤ i ∧ tk g i = some x ∧ x < e := by
  rw [List.mem_iff_getElem?]
  simp only [List.getElem?_drop, all_get G]
  constructor
  · rintro ⟨i, h1, h2⟩
    exact ⟨first + i, by omega, h1, h2⟩
  · rintro ⟨i, h0, h1, h2⟩
    exact ⟨i - first, by rw [show first + (i - first) = i by omega]; exact ⟨h1, h2⟩⟩
theorem led_list {f g h : Form} (F : WF f) (G : WF g) (H : WF h) {many first : Nat} (T : ∀ x, tick h x ↔ x ∈ mineOf f many ∨ ∃ i, first ≤ i ∧ lastOf f many < x ∧ tk g i = some x) (e : Int) : ledList (mineOf f many) ((allAhead g e).drop first) e = allAhead h e := by
  have hl : (if mineOf f many ≠ [] then (mineOf f many).getLastD 0 else -1) = lastOf f many := rfl
  unfold ledList
  rw [hl]
  have hth : Asc (((allAhead g e).drop first).filter fun x => decide (lastOf f many < x)) := ((all_asc G e).sublist (List.drop_sublist _ _)).filter _
  refine asc_ext ((List.pairwise_append.mpr ⟨mine_asc F many, hth, fun x hx y hy => ?_⟩).filter _) (all_asc H e) fun x => ?_
  · have := last_le F hx
    have := of_decide_eq_true (List.mem_filter.mp hy).2
    omega
  · rw [List.mem_filter, List.mem_append, List.mem_filter, drop_all G, all_mem H, T, decide_eq_true_eq, decide_eq_true_eq]
    constructor
    · rintro ⟨h | ⟨⟨i, h0, h1, h2⟩, h3⟩, h4⟩
      · exact ⟨.inl h, h4⟩
      · exact ⟨.inr ⟨i, h0, h3, h1⟩, h4⟩
    · rintro ⟨h | ⟨i, h0, h3, h1⟩, h4⟩
      · exact ⟨.inl h, h4⟩
      · exact ⟨.inr ⟨⟨i, h0, h1, h4⟩, h3⟩, h4⟩
theorem sem : ∀ b : Beat, b.ok → (bd b).1 + (bd b).2 ≤ 5040 → ∃ f, fm b = some f ∧ Sem b f := by
  intro b
  induction b with
  | source =>
    intro _ _
    have P : Per ⟨[], [0], 1⟩ 0 1 := ⟨by decide, by decide, fun x hx => by rw [source_tick, source_tick]; omega⟩
    have M : Min ⟨[], [0], 1⟩ := fun _ => .inl rfl
    have L := min_late P source_wf' M (by decide)
    refine ⟨⟨[], [0], 1⟩, checked_ok L, source_wf', L, M, fun _ => ⟨1, by decide⟩, P, fun e => ?_⟩
    refine asc_ext range_asc (all_asc source_wf' e) fun x => ?_
    show x ∈ rangeZ 0 e.toNat ↔ _
    rw [range_mem, all_mem source_wf', source_tick]
    omega
  | every n k b ih =>
    intro h hs
    have hl := every_len' h.2.2.1
    have hw := bd_pos h.2.2.2
    have hs' : (bd b).1 + (bd b).2 * n ≤ 5040 := hs
    have : (bd b).2 * 1 ≤ (bd b).2 * n := Nat.mul_le_mul_left _ h.1
    obtain ⟨f, hf, S⟩ := ih h.2.2.2 (by omega)
    exact gate_sem (bits := everyBits n k) S (by rw [hl]; exact h.1) hw (by rw [hl]; exact hs') rfl (by rw [hl]; rfl) (fun _ => rfl) rfl hf
  | gate bits b ih =>
    intro h hs
    have hw := bd_pos h.2.2
    have hs' : (bd b).1 + (bd b).2 * bits.length ≤ 5040 := hs
    have : (bd b).2 * 1 ≤ (bd b).2 * bits.length := Nat.mul_le_mul_left _ h.1
    obtain ⟨f, hf, S⟩ := ih h.2.2 (by omega)
    exact gate_sem (bits := bits) S h.1 hw hs' rfl rfl (fun _ => rfl) rfl hf
  | later m b ih =>
    intro h hs
    have hs' : (bd b).1 + m + (bd b).2 ≤ 5040 := hs
    obtain ⟨f, hf, S⟩ := ih h.2 (by omega)
    have hb0 := S.per.b0
    have P : Per (laterF f m) (((bd b).1 + m : Nat) : Int) ((bd b).2 : Int) := ⟨by omega, S.per.w1, fun x hx => by
      rw [later_tick, later_tick, S.per.per _ (by omega), show x - (m : Int) + ((bd b).2 : Int) = x + ((bd b).2 : Int) - m by omega]⟩
    have G := later_wf S.wf m
    have M := later_min (m := m) S.min
    have L := min_late P G M (by omega)
    refine ⟨laterF f m, ?_, G, L, M, fun hr => S.dvd fun z => hr (by unfold laterF; rw [z]; rfl), P, fun e => ?_⟩
    · show (fm b).bind (fun f => checked (laterF f m)) = _
      rw [hf]
      exact checked_ok L
    · show (lt b (max 0 (e - (m : Int)))).map (· + (m : Int)) = _
      rw [S.ticks]
      refine asc_ext (List.pairwise_map.mpr ((all_asc S.wf _).imp fun {a b} h => by omega)) (all_asc G e) fun x => ?_
      rw [List.mem_map, all_mem G, later_tick]
      constructor
      · rintro ⟨y, hy, rfl⟩
        obtain ⟨h1, h2⟩ := (all_mem S.wf).mp hy
        have := tick_nn S.wf h1
        exact ⟨by rw [show y + (m : Int) - m = y by omega]; exact h1, by omega⟩
      · rintro ⟨h1, h2⟩
        have := tick_nn S.wf h1
        exact ⟨x - m, (all_mem S.wf).mpr ⟨h1, by omega⟩, by omega⟩
  | two w a b iha ihb =>
    intro h hs
    have hwa := bd_pos h.1
    have hwb := bd_pos h.2
    have hs' : max (bd a).1 (bd b).1 + lcmN (bd a).2 (bd b).2 ≤ 5040 := hs
    have hp := lcmN_pos hwa hwb
    have da := lcmN_left (bd a).2 (bd b).2
    have db := lcmN_right (bd a).2 (bd b).2
    have la := Nat.le_of_dvd hp da
    have lb := Nat.le_of_dvd hp db
    obtain ⟨f, hf, S⟩ := iha h.1 (by omega)
    obtain ⟨g, hg, T⟩ := ihb h.2 (by omega)
    have hdv := two_dvd S.wf T.wf S.dvd T.dvd (Int.natCast_dvd_natCast.mpr da) (Int.natCast_dvd_natCast.mpr db)
    have hle := Int.le_of_dvd (by omega) hdv
    obtain ⟨g2, hg2⟩ : ∃ g2, ofTwo w f g = some g2 := ⟨_, by rw [ofTwo_eq, if_neg (by omega)]⟩
    obtain ⟨G, M, TT, D⟩ := ofTwo_spec S.wf T.wf hg2
    obtain ⟨ka, hka⟩ := da
    obtain ⟨kb, hkb⟩ := db
    have hka1 : 1 ≤ ka := by
      rcases Nat.eq_zero_or_pos ka with z | z
      · rw [z] at hka; omega
      · exact z
    have hkb1 : 1 ≤ kb := by
      rcases Nat.eq_zero_or_pos kb with z | z
      · rw [z] at hkb; omega
      · exact z
    have pa := S.per.wider (B' := ((max (bd a).1 (bd b).1 : Nat) : Int)) (by omega) hka1
    have pb := T.per.wider (B' := ((max (bd a).1 (bd b).1 : Nat) : Int)) (by omega) hkb1
    rw [← Int.natCast_mul, ← hka] at pa
    rw [← Int.natCast_mul, ← hkb] at pb
    have P : Per g2 ((max (bd a).1 (bd b).1 : Nat) : Int) ((lcmN (bd a).2 (bd b).2 : Nat) : Int) := ⟨by omega, by omega, fun x hx => by
      rw [TT, TT]
      exact holds_congr (pa.per x hx) (pb.per x hx)⟩
    have L := min_late P G M (by omega)
    refine ⟨g2, ?_, G, L, M, fun hr => Int.dvd_trans (D hr) hdv, P, fun e => ?_⟩
    · show (fm a).bind (fun f => (fm b).bind fun g => (ofTwo w f g).bind checked) = _
      rw [hf, hg]
      show (ofTwo w f g).bind checked = _
      rw [hg2]
      exact checked_ok L
    · show joined w (lt a e) (lt b e) = _
      rw [S.ticks, T.ticks]
      refine asc_ext (joined_asc (all_asc S.wf e)) (all_asc G e) fun x => ?_
      rw [joined_mem, all_mem S.wf, all_mem T.wf, all_mem G, TT]
      by_cases hx : x < e
      · simp only [hx, and_true]
      · cases w <;> simp [Two.holds, hx]
  | led a many b first iha ihb =>
    intro h hs
    have hwa := bd_pos h.2.2.1
    have hwb := bd_pos h.2.2.2
    have hs' : max ((bd a).1 + (bd a).2 * (many + 1)) ((bd b).1 + (bd b).2 * (first + 1)) + (bd b).2 ≤ 5040 := hs
    have m1 : (bd a).2 * 1 ≤ (bd a).2 * (many + 1) := Nat.mul_le_mul_left _ (by omega)
    have m2 : (bd b).2 * 1 ≤ (bd b).2 * (first + 1) := Nat.mul_le_mul_left _ (by omega)
    obtain ⟨f, hf, S⟩ := iha h.2.2.1 (by omega)
    obtain ⟨g, hg, T⟩ := ihb h.2.2.2 (by omega)
    obtain ⟨G, M, TT, D⟩ := led_spec (many := many) (first := first) S.wf T.wf
    have hB1 : (((bd a).1 + (bd a).2 * (many + 1) : Nat) : Int) = ((bd a).1 : Int) + ((bd a).2 : Int) * ((many + 1 : Nat) : Int) := by push_cast; rfl
    have hB2 : (((bd b).1 + (bd b).2 * (first + 1) : Nat) : Int) = ((bd b).1 : Int) + ((bd b).2 : Int) * ((first + 1 : Nat) : Int) := by push_cast; rfl
    have far : ∀ x : Int, ((max ((bd a).1 + (bd a).2 * (many + 1)) ((bd b).1 + (bd b).2 * (first + 1)) : Nat) : Int) ≤ x → (tick (ledForm f many g first) x ↔ tick g x) := fun x hx => by
      rw [TT]
      constructor
      · rintro (h | ⟨i, _, _, h⟩)
        · have := mine_lt S.per S.wf h
          omega
        · exact ⟨i, h⟩
      · rintro ⟨i, hi⟩
        have h1 := T.per.late T.wf (j := first + 1) hi (by omega)
        have h2 := last_lt (many := many) S.per S.wf
        exact .inr ⟨i, by omega, by omega, hi⟩
    have P : Per (ledForm f many g first) ((max ((bd a).1 + (bd a).2 * (many + 1)) ((bd b).1 + (bd b).2 * (first + 1)) : Nat) : Int) ((bd b).2 : Int) := ⟨by omega, by omega, fun x hx => by
      rw [far x hx, far (x + ((bd b).2 : Int)) (by omega)]
      exact T.per.per x (by omega)⟩
    have L := min_late P G M (by omega)
    refine ⟨ledForm f many g first, ?_, G, L, M, fun hr => Int.dvd_trans (D hr).2 (T.dvd (D hr).1), P, fun e => ?_⟩
    · show (fm a).bind (fun f => (fm b).bind fun g => checked (ledForm f many g first)) = _
      rw [hf, hg]
      exact checked_ok L
    · show ledList ((lt a (((bd a).1 + (bd a).2 * (many + 1) : Nat) : Int)).take many) ((lt b e).drop first) e = _
      rw [S.ticks, T.ticks, hB1, take_mine S.per S.wf]
      exact led_list S.wf T.wf G TT e
end TD

/-! What the laws find over one round. -/
namespace TD
section
variable {f : Form} {B W : Int}
theorem tickZ_get (W' : WF f) {e : Int} {i : Nat} (h : i < cnt f e) : tk f i = some (tickZ f (i : Int)) ∧ tickZ f (i : Int) < e := by
  obtain ⟨x, h1, h2⟩ := (cnt_spec W').mp h
  rw [tickZ_tk h1]
  exact ⟨h1, h2⟩
theorem tickZ_round (hr : f.round ≠ []) {i : Nat} (h : f.front.length ≤ i) : tk f i = some (tickZ f (i : Int)) := by
  have := tk_round hr (i - f.front.length)
  rw [show f.front.length + (i - f.front.length) = i by omega] at this
  rw [tickZ_tk this]
  exact this
/-- how many ticks a turn has -/
def turnN (f : Form) (B W : Int) : Nat := cnt f (B + W) - cnt f B
theorem cnt_le_iff (F : WF f) {i : Nat} {x e : Int} (h : tk f i = some x) : cnt f e ≤ i ↔ e ≤ x := by
  have := cnt_spec F (e := e) (i := i)
  have h2 : i < cnt f e ↔ x < e := this.trans ⟨fun ⟨y, hy, hye⟩ => by rw [h] at hy; cases hy; exact hye, fun z => ⟨x, h, z⟩⟩
  omega
/-- the ticks of a turn -/
theorem turn_list (F : WF f) (p : Per f B W) : ∀ e, B + W ≤ e → ((allAhead f e).filter fun x => decide (B ≤ x) && decide (x < B + W)) = (List.range (turnN f B W)).map fun (k : Nat) => tickZ f ((cnt f B + k : Nat) : Int) := by
  intro e he
  have hw := p.w1
  have hm := cnt_mono F (show B ≤ B + W by omega)
  have get : ∀ k, k < turnN f B W → tk f (cnt f B + k) = some (tickZ f ((cnt f B + k : Nat) : Int)) ∧ tickZ f ((cnt f B + k : Nat) : Int) < B + W := fun k hk => tickZ_get F (by unfold turnN at hk; omega)
  refine asc_ext ((all_asc F e).filter _) ?_ fun x => ?_
  · refine List.pairwise_map.mpr (List.Pairwise.imp_of_mem (fun {a b} ha hb hab => ?_) List.pairwise_lt_range)
    exact tk_mono F (get a (List.mem_range.mp ha)).1 (get b (List.mem_range.mp hb)).1 (by omega)
  · rw [List.mem_filter, all_mem F, List.mem_map, Bool.and_eq_true, decide_eq_true_eq, decide_eq_true_eq]
    constructor
    · rintro ⟨⟨⟨i, hi⟩, _⟩, h1, h2⟩
      have a := (cnt_le_iff F hi).mpr h1
      have b := (cnt_spec F).mpr ⟨x, hi, h2⟩
      refine ⟨i - cnt f B, List.mem_range.mpr (by unfold turnN; omega), ?_⟩
      rw [show cnt f B + (i - cnt f B) = i by omega, tickZ_tk hi]
    · rintro ⟨k, hk, rfl⟩
      obtain ⟨a, b⟩ := get k (List.mem_range.mp hk)
      exact ⟨⟨⟨_, a⟩, by omega⟩, (cnt_le_iff F a).mp (by omega), b⟩
theorem turn_list' (F : WF f) (p : Per f B W) : ((allAhead f (B + W)).filter fun x => decide (B ≤ x)) = (List.range (turnN f B W)).map fun (k : Nat) => tickZ f ((cnt f B + k : Nat) : Int) := by
  rw [← turn_list F p (B + W) (Int.le_refl _)]
  refine List.filter_congr fun x hx => ?_
  have := ((all_mem F).mp hx).2
  rw [decide_eq_true this, Bool.and_true]
theorem turn_none (F : WF f) (p : Per f B W) (hr : f.round = []) : turnN f B W = 0 := by
  unfold turnN
  rcases Nat.lt_or_ge (cnt f B) (cnt f (B + W)) with z | z
  · obtain ⟨x, h1, h2⟩ := (cnt_spec F).mp z
    have := p.ends F hr x ⟨_, h1⟩
    have := (cnt_spec F).mpr ⟨x, h1, this⟩
    omega
  · omega
/-- .. so many rounds -/
theorem turn_rounds (F : WF f) (p : Per f B W) (hr : f.round ≠ []) (hd : f.len ∣ W) : ∃ m : Nat, 1 ≤ m ∧ W = (m : Int) * f.len ∧ turnN f B W = m * f.round.length := by
  have hpos := (F.rnd hr).pos
  have hw := p.w1
  obtain ⟨c, hc⟩ := hd
  have hc1 : 1 ≤ c := by
    rcases Int.lt_or_le c 1 with z | z
    · have : f.len * c ≤ f.len * 0 := Int.mul_le_mul_of_nonneg_left (by omega) (by omega)
      omega
    · exact z
  obtain ⟨m, rfl⟩ := Int.eq_ofNat_of_zero_le (show 0 ≤ c by omega)
  refine ⟨m, by omega, by rw [hc, Int.mul_comm], ?_⟩
  -- a tick far on
  have h1 := tk_round hr (B.toNat * f.round.length)
  have h2 : rt f.round f.len (B.toNat * f.round.length) = f.round.headD 0 + (B.toNat : Int) * f.len := by
    have := rt_mul (len := f.len) hr 0 B.toNat
    rw [Nat.zero_add, rt_head hr] at this
    exact this
  have hnn := F.nn _ (List.mem_append_right _ (headD_mem hr))
  have hb := p.b0
  have h3 : (B.toNat : Int) * 1 ≤ (B.toNat : Int) * f.len := Int.mul_le_mul_of_nonneg_left (by omega) (by omega)
  rw [h2] at h1
  have s := p.shift F _ _ h1 (by omega)
  have r := tk_round hr (B.toNat * f.round.length + m * f.round.length)
  rw [rt_mul hr, h2] at r
  have hW : W = (m : Int) * f.len := by rw [hc, Int.mul_comm]
  rw [← hW] at r
  have := tk_inj F s r
  unfold turnN
  omega
end
theorem gcdZ_mul {a b m : Int} (hm : 0 < m) : gcdZ (m * a) (m * b) = m * gcdZ a b := by
  unfold gcdZ
  rw [Int.gcd_mul_left]
  obtain ⟨k, rfl⟩ := Int.eq_ofNat_of_zero_le (show 0 ≤ m by omega)
  rw [Int.natAbs_natCast]
  push_cast
  rfl
theorem red_mul {a b m : Int} (hm : 0 < m) (hg : 0 < gcdZ a b) : m * a / gcdZ (m * a) (m * b) = a / gcdZ a b ∧ m * b / gcdZ (m * a) (m * b) = b / gcdZ a b := by
  rw [gcdZ_mul hm]
  exact ⟨Int.mul_ediv_mul_of_pos _ _ hm, Int.mul_ediv_mul_of_pos _ _ hm⟩
theorem gcdZ_pos' {x y : Int} (h : 0 < x) : 0 < gcdZ x y := by
  unfold gcdZ
  have := Int.gcd_pos_of_ne_zero_left y (show x ≠ 0 by omega)
  omega
/-- a form's rate -/
def rateF (f : Form) : Int × Int := if f.round ≠ [] then ((f.round.length : Int) / gcdZ f.round.length f.len, f.len / gcdZ f.round.length f.len) else (0, 1)
theorem turn_rate {f : Form} {B W : Int} (F : WF f) (p : Per f B W) (hd : f.round ≠ [] → f.len ∣ W) : (turnN f B W = 0 ↔ f.round = []) ∧ (f.round ≠ [] → ((turnN f B W : Nat) : Int) / gcdZ (turnN f B W : Nat) W = (rateF f).1 ∧ W / gcdZ (turnN f B W : Nat) W = (rateF f).2) := by
  constructor
  · constructor
    · intro h
      refine Classical.byContradiction fun hr => ?_
      obtain ⟨m, hm, _, e⟩ := turn_rounds F p hr (hd hr)
      have hn := List.length_pos_iff.mpr hr
      have := Nat.mul_pos (show 0 < m by omega) hn
      omega
    · exact turn_none F p
  · intro hr
    obtain ⟨m, hm, hW, e⟩ := turn_rounds F p hr (hd hr)
    have hn := List.length_pos_iff.mpr hr
    unfold rateF
    rw [if_pos hr, e, hW, Int.natCast_mul]
    exact red_mul (by omega) (gcdZ_pos' (by omega))
/-! ### gaps -/
def diffs (l : List Int) : List Int := List.zipWith (fun a b => b - a) l l.tail
theorem diffs_mem {l : List Int} {d : Int} : d ∈ diffs l ↔ ∃ i x y, l[i]? = some x ∧ l[i + 1]? = some y ∧ d = y - x := by
  unfold diffs
  rw [List.mem_iff_getElem?]
  constructor
  · rintro ⟨i, h⟩
    rw [List.getElem?_zipWith] at h
    cases h1 : l[i]? with
    | none => rw [h1] at h; cases h
    | some x =>
      cases h2 : l.tail[i]? with
      | none => rw [h1, h2] at h; cases h
      | some y =>
        rw [h1, h2] at h
        cases h
        rw [List.getElem?_tail] at h2
        exact ⟨i, x, y, h1, h2, rfl⟩
  · rintro ⟨i, x, y, h1, h2, rfl⟩
    refine ⟨i, ?_⟩
    rw [List.getElem?_zipWith, h1, List.getElem?_tail, h2]
    skip
theorem diffs_len {l : List Int} : (diffs l).length = l.length - 1 := by
  unfold diffs
  rw [List.length_zipWith, List.length_tail]
  omega
/-- the front, the round, and the first one again -/
def everyF (f : Form) : List Int := if f.round ≠ [] then f.front ++ f.round ++ [f.round.headD 0 + f.len] else f.front ++ f.round
theorem every_get {f : Form} {i : Nat} {x : Int} : (everyF f)[i]? = some x ↔ tk f i = some x ∧ i ≤ f.front.length + f.round.length := by
  unfold everyF
  by_cases hr : f.round = []
  · rw [if_neg (fun z => z hr), hr, List.append_nil]
    rcases Nat.lt_or_ge i f.front.length with h | h
    · rw [tk_front h]
      simp
      omega
    · rw [tk_end hr h, List.getElem?_eq_none h]
      simp
  · rw [if_pos hr]
    have hn := List.length_pos_iff.mpr hr
    rw [List.getElem?_append, List.length_append]
    rcases Nat.lt_or_ge i (f.front.length + f.round.length) with h | h
    · rw [if_pos h, List.getElem?_append]
      rcases Nat.lt_or_ge i f.front.length with h2 | h2
      · rw [if_pos h2, tk_front h2]
        exact ⟨fun z => ⟨z, by omega⟩, fun z => z.1⟩
      · rw [if_neg (by omega)]
        have := tk_round hr (i - f.front.length)
        rw [show f.front.length + (i - f.front.length) = i by omega] at this
        rw [this, rt_lt (by omega), getD_eq (by omega), List.getElem?_eq_getElem (by omega)]
        exact ⟨fun z => ⟨z, by omega⟩, fun z => z.1⟩
    · rw [if_neg (by omega)]
      rcases Nat.lt_or_ge (f.front.length + f.round.length) i with h2 | h2
      · rw [List.getElem?_eq_none (by simp; omega)]
        constructor
        · intro z; cases z
        · rintro ⟨_, z⟩; omega
      · have e : i = f.front.length + f.round.length := by omega
        subst e
        rw [Nat.sub_self, tk_round hr]
        have := rt_mul (len := f.len) hr 0 1
        rw [Nat.zero_add, Nat.one_mul, rt_head hr] at this
        rw [this]
        simp
theorem gaps_same {f : Form} {B W : Int} (F : WF f) (M : Min f) (p : Per f B W) (hd : f.round ≠ [] → f.len ∣ W) (d : Int) : d ∈ diffs (allAhead f (B + 3 * W)) ↔ d ∈ diffs (everyF f) := by
  have hw := p.w1
  rw [diffs_mem, diffs_mem]
  constructor
  · rintro ⟨i, x, y, h1, h2, rfl⟩
    obtain ⟨a1, a2⟩ := (all_get F).mp h1
    obtain ⟨b1, b2⟩ := (all_get F).mp h2
    by_cases hr : f.round = []
    · have hi : i + 1 < f.front.length := by
        rcases Nat.lt_or_ge (i + 1) f.front.length with z | z
        · exact z
        · rw [tk_end hr z] at b1; cases b1
      exact ⟨i, x, y, every_get.mpr ⟨a1, by omega⟩, every_get.mpr ⟨b1, by omega⟩, rfl⟩
    · have hn := List.length_pos_iff.mpr hr
      rcases Nat.lt_or_ge i f.front.length with z | z
      · exact ⟨i, x, y, every_get.mpr ⟨a1, by omega⟩, every_get.mpr ⟨b1, by omega⟩, rfl⟩
      · obtain ⟨j, rfl⟩ : ∃ j, i = f.front.length + j := ⟨i - f.front.length, by omega⟩
        rw [tk_round hr] at a1
        rw [Nat.add_assoc, tk_round hr] at b1
        cases a1
        cases b1
        have hj := Nat.mod_lt j hn
        have e1 := rt_mul (len := f.len) hr (j % f.round.length) (j / f.round.length)
        have e2 := rt_mul (len := f.len) hr (j % f.round.length + 1) (j / f.round.length)
        have hmd : j % f.round.length + j / f.round.length * f.round.length = j := by rw [Nat.mul_comm]; exact Nat.mod_add_div j _
        rw [hmd] at e1
        rw [show j % f.round.length + 1 + j / f.round.length * f.round.length = j + 1 by omega] at e2
        refine ⟨f.front.length + j % f.round.length, _, _, every_get.mpr ⟨tk_round hr _, by omega⟩, every_get.mpr ⟨by rw [Nat.add_assoc]; exact tk_round hr _, by omega⟩, ?_⟩
        omega
  · rintro ⟨i, x, y, h1, h2, rfl⟩
    obtain ⟨a1, a2⟩ := every_get.mp h1
    obtain ⟨b1, b2⟩ := every_get.mp h2
    have hlt : y < B + 3 * W := by
      by_cases hr : f.round = []
      · have := p.ends F hr y ⟨_, b1⟩
        omega
      · have hs := min_start p F M hr
        have hle := Int.le_of_dvd (by omega) (hd hr)
        have h3 := tk_round hr f.round.length
        have := rt_mul (len := f.len) hr 0 1
        rw [Nat.zero_add, Nat.one_mul, rt_head hr] at this
        rw [this] at h3
        by_cases e : i + 1 = f.front.length + f.round.length
        · rw [e, h3] at b1
          cases b1
          omega
        · have := tk_mono F b1 h3 (by omega)
          omega
    have hxy := tk_mono F a1 b1 (by omega)
    exact ⟨i, x, y, (all_get F).mpr ⟨a1, by omega⟩, (all_get F).mpr ⟨b1, hlt⟩, rfl⟩
theorem nil_iff {l l' : List Int} (h : ∀ d, d ∈ l ↔ d ∈ l') : l = [] ↔ l' = [] := by
  constructor
  · intro e
    refine List.eq_nil_iff_forall_not_mem.mpr fun d hd => ?_
    have := (h d).mpr hd
    rw [e] at this
    cases this
  · intro e
    refine List.eq_nil_iff_forall_not_mem.mpr fun d hd => ?_
    have := (h d).mp hd
    rw [e] at this
    cases this
theorem min_uniq {l l' : List Int} (h : ∀ d, d ∈ l ↔ d ∈ l') {a b : Int} (ha : a ∈ l) (ha2 : ∀ x ∈ l, a ≤ x) (hb : b ∈ l') (hb2 : ∀ x ∈ l', b ≤ x) : a = b := by
  have := ha2 b ((h b).mpr hb)
  have := hb2 a ((h a).mp ha)
  omega
theorem max_uniq {l l' : List Int} (h : ∀ d, d ∈ l ↔ d ∈ l') {a b : Int} (ha : a ∈ l) (ha2 : ∀ x ∈ l, x ≤ a) (hb : b ∈ l') (hb2 : ∀ x ∈ l', x ≤ b) : a = b := by
  have := ha2 b ((h b).mpr hb)
  have := hb2 a ((h a).mp ha)
  omega
end TD

/-! The table behind a set: each search ends, at the place or at a free one. -/
namespace TD
open PySem

/-! ### the leaps go through all places -/
def lcg : Nat → Nat
  | 0 => 0
  | n + 1 => 5 * lcg n + 1
theorem lcg_pow : ∀ n, 5 ^ n = 4 * lcg n + 1
  | 0 => rfl
  | n + 1 => by rw [Nat.pow_succ, lcg_pow n, lcg]; omega
theorem lcg_add (a : Nat) : ∀ b, lcg (a + b) = 5 ^ b * lcg a + lcg b
  | 0 => by simp [lcg]
  | b + 1 => by
    rw [← Nat.add_assoc, lcg, lcg_add a b, Nat.pow_succ, lcg, Nat.mul_add, Nat.mul_comm (5 ^ b) 5, Nat.mul_assoc]
    omega
theorem lcg_two : ∀ k, ∃ o, lcg (2 ^ k) = 2 ^ k * (2 * o + 1)
  | 0 => ⟨0, rfl⟩
  | k + 1 => by
    obtain ⟨o, ho⟩ := lcg_two k
    have e : lcg (2 ^ (k + 1)) = 2 * (lcg (2 ^ k) * (2 * lcg (2 ^ k) + 1)) := by
      rw [Nat.pow_succ, Nat.mul_two, lcg_add, lcg_pow]
      generalize lcg (2 ^ k) = s
      rw [Nat.add_mul, Nat.one_mul, Nat.mul_add, Nat.mul_one, Nat.mul_assoc, Nat.mul_left_comm s 2 s]
      omega
    generalize hs : lcg (2 ^ k) = s at *
    refine ⟨2 * o * s + o + s, ?_⟩
    rw [e, Nat.pow_succ]
    conv => lhs; rw [show s * (2 * s + 1) = (2 ^ k * (2 * o + 1)) * (2 * s + 1) by rw [← ho]]
    have : (2 * o + 1) * (2 * s + 1) = 2 * (2 * o * s + o + s) + 1 := by
      rw [Nat.add_mul, Nat.mul_add, Nat.one_mul, Nat.mul_one, Nat.mul_left_comm (2 * o) 2 s]
      omega
    rw [Nat.mul_assoc, this, ← Nat.mul_assoc, Nat.mul_comm 2 (2 ^ k)]
theorem lcg_step (k m : Nat) : ∃ q, lcg (m + 2 ^ k) = lcg m + 2 ^ k * (2 * q + 1) := by
  obtain ⟨o, ho⟩ := lcg_two k
  have e : lcg (m + 2 ^ k) = lcg m + lcg (2 ^ k) * (4 * lcg m + 1) := by
    rw [lcg_add, lcg_pow, Nat.add_mul, Nat.one_mul, Nat.mul_add, Nat.mul_one, Nat.mul_assoc, Nat.mul_left_comm (lcg (2 ^ k)) 4]
    omega
  refine ⟨o * (4 * lcg m + 1) + 2 * lcg m, ?_⟩
  rw [e, ho, Nat.mul_assoc, show (2 * o + 1) * (4 * lcg m + 1) = 2 * (o * (4 * lcg m + 1) + 2 * lcg m) + 1 by rw [Nat.add_mul, Nat.one_mul, Nat.mul_assoc]; omega]
theorem lcg_onto : ∀ k y, ∃ m, lcg m % 2 ^ k = y % 2 ^ k
  | 0, y => ⟨0, by rw [Nat.pow_zero, Nat.mod_one, Nat.mod_one]⟩
  | k + 1, y => by
    obtain ⟨m, hm⟩ := lcg_onto k y
    by_cases h : lcg m % 2 ^ (k + 1) = y % 2 ^ (k + 1)
    · exact ⟨m, h⟩
    · obtain ⟨q, hq⟩ := lcg_step k m
      refine ⟨m + 2 ^ k, ?_⟩
      have hM : 0 < 2 ^ k := Nat.pow_pos (by decide)
      rw [Nat.pow_succ, Nat.mod_mul, Nat.mod_mul] at h ⊢
      rw [hq, Nat.add_mul_mod_self_left, Nat.add_mul_div_left _ _ hM, hm]
      rw [hm] at h
      generalize 2 ^ k = M at *
      have h1 : lcg m / M % 2 ≠ y / M % 2 := fun z => h (by rw [z])
      have h2 : (lcg m / M + (2 * q + 1)) % 2 = y / M % 2 := by omega
      rw [h2]
theorem lcg_per (k : Nat) {x y : Nat} (h : x % 2 ^ k = y % 2 ^ k) : lcg x % 2 ^ k = lcg y % 2 ^ k := by
  have turn : ∀ j m, lcg (m + j * 2 ^ k) % 2 ^ k = lcg m % 2 ^ k := by
    intro j m
    induction j with
    | zero => simp
    | succ j ih =>
      obtain ⟨q, hq⟩ := lcg_step k (m + j * 2 ^ k)
      rw [Nat.succ_mul, ← Nat.add_assoc, hq, Nat.add_mul_mod_self_left, ih]
  have ex : x = x % 2 ^ k + x / 2 ^ k * 2 ^ k := by rw [Nat.mul_comm]; exact (Nat.mod_add_div x _).symm
  have ey : y = y % 2 ^ k + y / 2 ^ k * 2 ^ k := by rw [Nat.mul_comm]; exact (Nat.mod_add_div y _).symm
  rw [ex, ey, turn, turn, h]
theorem cyc {k : Nat} {J : Nat → Nat} (h0 : J 0 < 2 ^ k) (hs : ∀ m, J (m + 1) = (J m * 5 + 1) % 2 ^ k) {e : Nat} (he : e < 2 ^ k) : ∃ m, m < 2 ^ k ∧ J m = e := by
  obtain ⟨a, ha⟩ := lcg_onto k (J 0)
  obtain ⟨b, hb⟩ := lcg_onto k e
  rw [Nat.mod_eq_of_lt h0] at ha
  rw [Nat.mod_eq_of_lt he] at hb
  have hJ : ∀ m, J m = lcg (a + m) % 2 ^ k := by
    intro m
    induction m with
    | zero => exact ha.symm
    | succ m ih =>
      rw [hs, ih, ← Nat.add_assoc, lcg, Nat.add_mod, Nat.mod_mul_mod, ← Nat.add_mod, Nat.mul_comm 5]
  have hM : 0 < 2 ^ k := Nat.pow_pos (by decide)
  refine ⟨(b + (2 ^ k - a % 2 ^ k)) % 2 ^ k, Nat.mod_lt _ hM, ?_⟩
  rw [hJ, ← hb]
  refine lcg_per k ?_
  rw [Nat.add_mod_mod]
  have h1 := Nat.mod_lt a hM
  have h2 := Nat.mod_add_div a (2 ^ k)
  have h3 : a + (b + (2 ^ k - a % 2 ^ k)) = b + 2 ^ k * (a / 2 ^ k + 1) := by
    rw [Nat.mul_add, Nat.mul_one]
    omega
  rw [h3, Nat.add_mul_mod_self_left]

/-! ### the places that are looked at -/
/-- the m-th leap's place, and what is left to mix in -/
def leapN (mask : Nat) (h : Int) : Nat → Nat × Nat
  | 0 => (SetTable.bits h % (mask + 1), SetTable.bits h)
  | m + 1 => SetTable.leap mask (leapN mask h m).1 (leapN mask h m).2
def win (mask i : Nat) : Nat := SetTable.runEnd mask i - i
theorem win_le (mask i : Nat) : win mask i ≤ 9 := by
  unfold win SetTable.runEnd
  split <;> omega
theorem win_in {mask i : Nat} (h : i ≤ mask) : i + win mask i ≤ mask := by
  unfold win SetTable.runEnd
  split <;> omega
theorem leap_in (mask : Nat) (h : Int) (m : Nat) : (leapN mask h m).1 ≤ mask := by
  cases m with
  | zero => exact Nat.le_of_lt_succ (Nat.mod_lt _ (Nat.succ_pos _))
  | succ m => exact Nat.le_of_lt_succ (Nat.mod_lt _ (Nat.succ_pos _))
theorem bits_lt (h : Int) : SetTable.bits h < 2 ^ 64 := by
  unfold SetTable.bits
  have h1 := Int.emod_nonneg h (show (2 ^ 64 : Int) ≠ 0 by decide)
  have h2 := Int.emod_lt_of_pos h (show (0 : Int) < 2 ^ 64 by decide)
  omega
theorem leap_rest (mask : Nat) (h : Int) : ∀ m, (leapN mask h m).2 = SetTable.bits h / 32 ^ m
  | 0 => by simp [leapN]
  | m + 1 => by
    show (leapN mask h m).2 / 32 = _
    rw [leap_rest mask h m, Nat.div_div_eq_div_mul, Nat.pow_succ]
theorem leap_none (mask : Nat) (h : Int) {m : Nat} (hm : 13 ≤ m) : (leapN mask h m).2 = 0 := by
  rw [leap_rest]
  refine Nat.div_eq_of_lt (Nat.lt_of_lt_of_le (bits_lt h) ?_)
  exact Nat.le_trans (show 2 ^ 64 ≤ 32 ^ 13 by decide) (Nat.pow_le_pow_right (by decide) hm)
theorem leap_all {mask k : Nat} (hk : mask + 1 = 2 ^ k) (h : Int) {e : Nat} (he : e ≤ mask) : ∃ m, m < mask + 15 ∧ (leapN mask h m).1 = e := by
  obtain ⟨m, hm, hJ⟩ := cyc (k := k) (J := fun m => (leapN mask h (13 + m)).1) (by rw [← hk]; exact Nat.lt_succ_of_le (leap_in _ _ _)) (fun m => by
    show ((leapN mask h (13 + m)).1 * 5 + 1 + (leapN mask h (13 + m)).2 / 32) % (mask + 1) = _
    rw [leap_none mask h (show 13 ≤ 13 + m by omega), hk]) (e := e) (by omega)
  exact ⟨13 + m, by omega, hJ⟩
/-- a place is looked at behind none that is free -/
structure Reach (mask : Nat) (occ : Nat → Prop) (h : Int) (j m k : Nat) : Prop where
  lt : m < mask + 15
  kl : k ≤ win mask (leapN mask h m).1
  eq : j = (leapN mask h m).1 + k
  here : ∀ k' < k, occ ((leapN mask h m).1 + k')
  ahead : ∀ m' < m, ∀ k' ≤ win mask (leapN mask h m').1, occ ((leapN mask h m').1 + k')
theorem Reach.mono {mask : Nat} {occ occ' : Nat → Prop} {h : Int} {j m k : Nat} (r : Reach mask occ h j m k) (i : ∀ x, occ x → occ' x) : Reach mask occ' h j m k :=
  ⟨r.lt, r.kl, r.eq, fun k' h' => i _ (r.here k' h'), fun m' h' k' h2 => i _ (r.ahead m' h' k' h2)⟩
theorem Reach.le {mask : Nat} {occ : Nat → Prop} {h : Int} {j m k : Nat} (r : Reach mask occ h j m k) : j ≤ mask := by
  have := win_in (leap_in mask h m)
  have := r.kl
  have := r.eq
  omega
theorem least_of {p : Nat → Prop} : ∀ {n : Nat}, p n → ∃ n, p n ∧ ∀ m < n, ¬ p m := by
  intro n
  induction n using Nat.strongRecOn with
  | ind n ih =>
    intro h
    by_cases c : ∃ m, m < n ∧ p m
    · obtain ⟨m, h1, h2⟩ := c
      exact ih m h1 h2
    · exact ⟨n, h, fun m hm hp => c ⟨m, hm, hp⟩⟩
theorem first_free {mask k : Nat} (hk : mask + 1 = 2 ^ k) {occ : Nat → Prop} (h : Int) {e : Nat} (he : e ≤ mask) (hf : ¬ occ e) : ∃ j m k, Reach mask occ h j m k ∧ ¬ occ j := by
  obtain ⟨m0, hm0, he0⟩ := leap_all hk h he
  obtain ⟨m, ⟨hm, k1, hk1, hf1⟩, hmin⟩ := least_of (p := fun m => m < mask + 15 ∧ ∃ k, k ≤ win mask (leapN mask h m).1 ∧ ¬ occ ((leapN mask h m).1 + k)) (n := m0) ⟨hm0, 0, Nat.zero_le _, by rw [he0]; exact hf⟩
  obtain ⟨k2, ⟨hk2, hf2⟩, kmin⟩ := least_of (p := fun k => k ≤ win mask (leapN mask h m).1 ∧ ¬ occ ((leapN mask h m).1 + k)) ⟨hk1, hf1⟩
  refine ⟨_, m, k2, ⟨hm, hk2, rfl, fun k' hk' => ?_, fun m' hm' k' hk' => ?_⟩, hf2⟩
  · exact Classical.byContradiction fun z => kmin k' hk' ⟨by omega, z⟩
  · exact Classical.byContradiction fun z => hmin m' hm' ⟨by omega, k', hk', z⟩

/-! ### a search -/
def stAt (mask : Nat) (h : Int) (m k : Nat) : SetTable.Probe := { j := (leapN mask h m).1 + k, more := win mask (leapN mask h m).1 - k, i := (leapN mask h m).1, perturb := (leapN mask h m).2, dummy := none }
theorem st_start (t : SetTable) (h : Int) : t.probeStart h = stAt t.mask h 0 0 := rfl
theorem st_next (t : SetTable) (h : Int) {m k : Nat} (hk : k ≤ win t.mask (leapN t.mask h m).1) : t.advance (stAt t.mask h m k) = if k < win t.mask (leapN t.mask h m).1 then stAt t.mask h m (k + 1) else stAt t.mask h (m + 1) 0 := by
  unfold SetTable.advance stAt
  dsimp only
  by_cases c : k < win t.mask (leapN t.mask h m).1
  · rw [if_pos c, if_pos (by omega), show win t.mask (leapN t.mask h m).1 - k - 1 = win t.mask (leapN t.mask h m).1 - (k + 1) by omega, Nat.add_assoc]
  · rw [if_neg c, if_neg (by omega)]
    rfl
theorem go_to (t : SetTable) (hashAt : Nat → Int) (h : Int) {m1 k1 : Nat} (hk1 : k1 ≤ win t.mask (leapN t.mask h m1).1) (live : Nat → Prop) (hl : ∀ j, live j → ∃ i, t.slot j = .live i ∧ (hashAt i == h) = false)
    (here : ∀ k' < k1, live ((leapN t.mask h m1).1 + k')) (ahead : ∀ m' < m1, ∀ k' ≤ win t.mask (leapN t.mask h m').1, live ((leapN t.mask h m').1 + k')) :
    ∀ (d f m k : Nat), 10 * m1 + k1 ≤ 10 * m + k + d → (m < m1 ∨ (m = m1 ∧ k ≤ k1)) → k ≤ win t.mask (leapN t.mask h m).1 → d < f → ∃ f', SetTable.probe.go t hashAt h f (stAt t.mask h m k) = SetTable.probe.go t hashAt h (f' + 1) (stAt t.mask h m1 k1) := by
  intro d
  induction d with
  | zero =>
    intro f m k h1 h2 h3 h4
    have := win_le t.mask (leapN t.mask h m).1
    have e : m = m1 ∧ k = k1 := by omega
    obtain ⟨rfl, rfl⟩ := e
    exact ⟨f - 1, by rw [show f - 1 + 1 = f by omega]⟩
  | succ d ih =>
    intro f m k h1 h2 h3 h4
    by_cases e : m = m1 ∧ k = k1
    · obtain ⟨rfl, rfl⟩ := e
      exact ⟨f - 1, by rw [show f - 1 + 1 = f by omega]⟩
    · have hlv : live ((leapN t.mask h m).1 + k) := by
        rcases h2 with h2 | ⟨rfl, h2⟩
        · exact ahead m h2 k h3
        · exact here k (by omega)
      obtain ⟨i, hs, hh⟩ := hl _ hlv
      obtain ⟨g, rfl⟩ : ∃ g, f = g + 1 := ⟨f - 1, by omega⟩
      have step : SetTable.probe.go t hashAt h (g + 1) (stAt t.mask h m k) = SetTable.probe.go t hashAt h g (t.advance (stAt t.mask h m k)) := by
        rw [SetTable.probe.go]
        have hj : (stAt t.mask h m k).j = (leapN t.mask h m).1 + k := rfl
        rw [hj, hs]
        dsimp only
        rw [hh]
        rfl
      rw [step, st_next t h h3]
      have hw := win_le t.mask (leapN t.mask h m).1
      by_cases c : k < win t.mask (leapN t.mask h m).1
      · rw [if_pos c]
        refine ih g m (k + 1) (by omega) ?_ (by omega) (by omega)
        omega
      · rw [if_neg c]
        refine ih g (m + 1) 0 (by omega) ?_ (Nat.zero_le _) (by omega)
        rcases h2 with h2 | ⟨rfl, h2⟩
        · omega
        · omega
theorem probe_to (t : SetTable) (hashAt : Nat → Int) (h : Int) {j m1 k1 : Nat} {live : Nat → Prop} (r : Reach t.mask live h j m1 k1) (hl : ∀ j, live j → ∃ i, t.slot j = .live i ∧ (hashAt i == h) = false) :
    ∃ f', t.probe hashAt h (t.probeStart h) = SetTable.probe.go t hashAt h (f' + 1) (stAt t.mask h m1 k1) := by
  have hm := r.lt
  have hk := r.kl
  have hw := win_le t.mask (leapN t.mask h m1).1
  unfold SetTable.probe
  rw [st_start]
  refine go_to t hashAt h r.kl live hl r.here r.ahead (10 * m1 + k1) _ 0 0 (by omega) (by omega) (Nat.zero_le _) ?_
  unfold SetTable.turns
  omega
theorem probe_empty (t : SetTable) (hashAt : Nat → Int) (h : Int) {j m1 k1 : Nat} {live : Nat → Prop} (r : Reach t.mask live h j m1 k1) (hl : ∀ j, live j → ∃ i, t.slot j = .live i ∧ (hashAt i == h) = false) (he : t.slot j = .empty) :
    t.probe hashAt h (t.probeStart h) = some (.empty j none) := by
  obtain ⟨f', e⟩ := probe_to t hashAt h r hl
  rw [e, SetTable.probe.go]
  have hj : (stAt t.mask h m1 k1).j = j := r.eq.symm
  rw [hj, he]
  rfl
theorem probe_there (t : SetTable) (hashAt : Nat → Int) (h : Int) {j i m1 k1 : Nat} {live : Nat → Prop} (r : Reach t.mask live h j m1 k1) (hl : ∀ j, live j → ∃ i, t.slot j = .live i ∧ (hashAt i == h) = false) (he : t.slot j = .live i) (hh : (hashAt i == h) = true) :
    ∃ nx, t.probe hashAt h (t.probeStart h) = some (.candidate j i nx) := by
  obtain ⟨f', e⟩ := probe_to t hashAt h r hl
  refine ⟨t.advance (stAt t.mask h m1 k1), ?_⟩
  rw [e, SetTable.probe.go]
  have hj : (stAt t.mask h m1 k1).j = j := r.eq.symm
  rw [hj, he]
  dsimp only
  rw [if_pos hh]
end TD
namespace TD
open PySem L2

/-! ### tables with no dummies -/
structure TabOk (t : SetTable) (es : Array (Int × Value)) : Prop where
  pow : ∃ k, 3 ≤ k ∧ t.mask + 1 = 2 ^ k
  dum : t.dummies = #[]
  ris : Ris t.place.toList
  le : ∀ j ∈ t.place.toList, j ≤ t.mask
  size : t.place.toList.length = es.toList.length
  few : t.place.toList.length ≤ t.mask
  reach : ∀ (p j : Nat) (e : Int × Value), t.place.toList[p]? = some j → es.toList[p]? = some e → ∃ m k, Reach t.mask (fun x => x ∈ t.place.toList) e.1 j m k
theorem has_none (j : Nat) : SetTable.has #[] j = false := rfl
theorem slot_live {t : SetTable} (r : Ris t.place.toList) {i j : Nat} (h : t.place.toList[i]? = some j) : t.slot j = .live i := by
  have hb : SetTable.below t.place j = i := by
    obtain ⟨c1, c2, c3⟩ := below_cut r j
    generalize SetTable.below t.place j = p at *
    have hi := (List.getElem?_eq_some_iff.mp h).1
    rcases Nat.lt_trichotomy p i with z | z | z
    · have hp : p < t.place.toList.length := by omega
      have e1 : t.place.toList[p]? = some (t.place.toList[p]) := List.getElem?_eq_getElem hp
      have a := c3 p _ e1 (Nat.le_refl _)
      have b := ris_lt r e1 h z
      omega
    · exact z
    · have := c2 i j h z
      omega
  unfold SetTable.slot
  dsimp only
  rw [hb, ← Array.getElem?_toList, h]
  simp
theorem slot_empty {t : SetTable} (hd : t.dummies = #[]) {j : Nat} (h : j ∉ t.place.toList) : t.slot j = .empty := by
  unfold SetTable.slot
  dsimp only
  have h1 : (t.place[SetTable.below t.place j]? == some j) = false := by
    rw [beq_eq_false_iff_ne]
    intro z
    rw [← Array.getElem?_toList] at z
    exact h (List.mem_of_getElem? z)
  rw [h1, hd, has_none]
  rfl
theorem room_of {t : SetTable} {es : Array (Int × Value)} (T : TabOk t es) : ∃ e, e ≤ t.mask ∧ e ∉ t.place.toList := by
  refine Classical.byContradiction fun z => ?_
  have hs : ∀ e ∈ List.range (t.mask + 1), e ∈ t.place.toList := fun e he => Classical.byContradiction fun h => z ⟨e, Nat.le_of_lt_succ (List.mem_range.mp he), h⟩
  have := List.Nodup.length_le_of_subset List.nodup_range hs
  rw [List.length_range] at this
  have := T.few
  omega
/-- where a hash's new place is -/
theorem free_at {t : SetTable} {es : Array (Int × Value)} (T : TabOk t es) (h : Int) : ∃ j m k, Reach t.mask (fun x => x ∈ t.place.toList) h j m k ∧ j ∉ t.place.toList := by
  obtain ⟨k, _, hk⟩ := T.pow
  obtain ⟨e, he, hf⟩ := room_of T
  exact first_free hk h he hf
theorem probe_new {t : SetTable} {es : Array (Int × Value)} (T : TabOk t es) (hashAt : Nat → Int) (h : Int) (hn : ∀ i, i < es.size → (hashAt i == h) = false) {j m k : Nat} (r : Reach t.mask (fun x => x ∈ t.place.toList) h j m k) (hj : j ∉ t.place.toList) :
    t.probe hashAt h (t.probeStart h) = some (.empty j none) := by
  refine probe_empty t hashAt h r (fun x hx => ?_) (slot_empty T.dum hj)
  obtain ⟨i, hi⟩ := List.mem_iff_getElem?.mp hx
  refine ⟨i, slot_live T.ris hi, hn i ?_⟩
  have := (List.getElem?_eq_some_iff.mp hi).1
  have hs := T.size
  rw [Array.length_toList, Array.length_toList] at hs
  rw [Array.length_toList] at this
  omega
theorem probe_old {t : SetTable} {es : Array (Int × Value)} (T : TabOk t es) (hashAt : Nat → Int) (hH : ∀ (i : Nat) (e : Int × Value), es.toList[i]? = some e → hashAt i = e.1) (nd : (es.toList.map (·.1)).Nodup) {i : Nat} {e : Int × Value} (he : es.toList[i]? = some e) :
    ∃ j nx, t.probe hashAt e.1 (t.probeStart e.1) = some (.candidate j i nx) ∧ t.slot j = .live i := by
  have hi := (List.getElem?_eq_some_iff.mp he).1
  have hj : t.place.toList[i]? = some (t.place.toList[i]'(by rw [T.size]; exact hi)) := List.getElem?_eq_getElem _
  generalize (t.place.toList[i]'(by rw [T.size]; exact hi)) = j at hj
  obtain ⟨m, k, r⟩ := T.reach i j e hj he
  -- the least pair that gives the place
  have r' : Reach t.mask (fun x => x ∈ t.place.toList ∧ x ≠ j) e.1 j m k ∨ ∃ m' k', Reach t.mask (fun x => x ∈ t.place.toList ∧ x ≠ j) e.1 j m' k' := by
    obtain ⟨m1, ⟨k1, r1⟩, mmin⟩ := least_of (p := fun m => ∃ k, Reach t.mask (fun x => x ∈ t.place.toList) e.1 j m k) (n := m) ⟨k, r⟩
    obtain ⟨k2, r2, kmin⟩ := least_of (p := fun k => Reach t.mask (fun x => x ∈ t.place.toList) e.1 j m1 k) (n := k1) r1
    refine .inr ⟨m1, k2, r2.lt, r2.kl, r2.eq, fun k' hk' => ⟨r2.here k' hk', fun z => ?_⟩, fun m' hm' k' hk' => ⟨r2.ahead m' hm' k' hk', fun z => ?_⟩⟩
    · have := r2.eq
      omega
    · exact mmin m' hm' ⟨k', by have := r2.lt; omega, hk', z.symm, fun k3 h3 => r2.ahead m' hm' k3 (by omega), fun m3 h3 => r2.ahead m3 (by omega)⟩
  have fin : ∀ m k, Reach t.mask (fun x => x ∈ t.place.toList ∧ x ≠ j) e.1 j m k → ∃ j nx, t.probe hashAt e.1 (t.probeStart e.1) = some (.candidate j i nx) ∧ t.slot j = .live i := fun m k r => by
    have hlv : ∀ x, (x ∈ t.place.toList ∧ x ≠ j) → ∃ i, t.slot x = .live i ∧ (hashAt i == e.1) = false := fun x hx => by
      obtain ⟨i', hi'⟩ := List.mem_iff_getElem?.mp hx.1
      refine ⟨i', slot_live T.ris hi', ?_⟩
      have hl := (List.getElem?_eq_some_iff.mp hi').1
      rw [T.size] at hl
      have he' : es.toList[i']? = some (es.toList[i']) := List.getElem?_eq_getElem hl
      rw [hH i' _ he', beq_eq_false_iff_ne]
      intro z
      have hne : i' ≠ i := fun q => by
        subst q
        rw [hj] at hi'
        exact hx.2 (Option.some.inj hi').symm
      refine hne ((List.getElem?_inj (l := es.toList.map (·.1)) (by rw [List.length_map]; exact hl) nd).mp ?_)
      rw [List.getElem?_map, List.getElem?_map, he', he]
      exact congrArg some z
    obtain ⟨nx, h⟩ := probe_there t hashAt e.1 r hlv (slot_live T.ris hj) (by rw [hH i e he]; exact beq_self_eq_true _)
    exact ⟨j, nx, h, slot_live T.ris hj⟩
  rcases r' with r' | ⟨m', k', r'⟩
  · exact fin _ _ r'
  · exact fin _ _ r'
theorem put_ok {t : SetTable} {es : Array (Int × Value)} (T : TabOk t es) {h : Int} {x : Value} {j m k : Nat} (r : Reach t.mask (fun x => x ∈ t.place.toList) h j m k) (hj : j ∉ t.place.toList) (hroom : es.size + 1 ≤ t.mask) :
    TabOk (t.put j).1 (SetTable.insertAt es (t.put j).2 (h, x)) ∧ (t.put j).1.mask = t.mask ∧ (t.put j).1.led = t.led ∧ (t.put j).1.place.size = t.place.size + 1 ∧ (t.put j).1.plain = t.plain := by
  have hput : t.put j = ({ t with place := SetTable.insertAt t.place (SetTable.below t.place j) j, dummies := #[] }, SetTable.below t.place j) := by
    unfold SetTable.put
    dsimp only
    rw [T.dum, has_none]
    rfl
  rw [hput]
  dsimp only
  have hn : t.place[SetTable.below t.place j]? ≠ some j := fun z => by
    rw [← Array.getElem?_toList] at z
    exact hj (List.mem_of_getElem? z)
  have hr := ris_insert T.ris hn
  obtain ⟨c1, c2, c3⟩ := below_cut T.ris j
  have hs := T.size
  generalize SetTable.below t.place j = p at *
  have e1 : (SetTable.insertAt t.place p j).toList = t.place.toList.take p ++ j :: t.place.toList.drop p := by rw [SetTable.toList_insertAt]
  have e2 : (SetTable.insertAt es p (h, x)).toList = es.toList.take p ++ (h, x) :: es.toList.drop p := by rw [SetTable.toList_insertAt]
  have mem : ∀ y, y ∈ (SetTable.insertAt t.place p j).toList ↔ y = j ∨ y ∈ t.place.toList := fun y => by
    rw [e1, List.mem_append, List.mem_cons]
    conv => rhs; rw [← List.take_append_drop p t.place.toList, List.mem_append]
    constructor
    · rintro (h | h | h)
      · exact .inr (.inl h)
      · exact .inl h
      · exact .inr (.inr h)
    · rintro (h | h | h)
      · exact .inr (.inl h)
      · exact .inl h
      · exact .inr (.inr h)
  have hp : p ≤ t.place.toList.length := by rw [Array.length_toList]; exact c1
  have len : (SetTable.insertAt t.place p j).toList.length = t.place.toList.length + 1 := by
    rw [e1, List.length_append, List.length_cons, List.length_take, List.length_drop]
    omega
  have lenE : (SetTable.insertAt es p (h, x)).toList.length = es.toList.length + 1 := by
    rw [e2, List.length_append, List.length_cons, List.length_take, List.length_drop]
    omega
  have hes : es.toList.length = es.size := Array.length_toList
  refine ⟨⟨T.pow, rfl, hr, fun y hy => ?_, by dsimp only; omega, by dsimp only; omega, fun q y e hy he => ?_⟩, rfl, rfl, ?_, rfl⟩
  · rcases (mem y).mp hy with rfl | hy
    · exact r.le
    · exact T.le y hy
  · have up : ∀ {h' : Int} {y m k : Nat}, Reach t.mask (fun x => x ∈ t.place.toList) h' y m k → Reach t.mask (fun x => x ∈ (SetTable.insertAt t.place p j).toList) h' y m k := fun r => r.mono fun x hx => (mem x).mpr (.inr hx)
    dsimp only at hy he ⊢
    rw [e1] at hy
    rw [e2] at he
    rw [List.getElem?_append, List.length_take, Nat.min_eq_left hp] at hy
    rw [List.getElem?_append, List.length_take, Nat.min_eq_left (by omega)] at he
    by_cases hq : q < p
    · rw [if_pos hq, List.getElem?_take, if_pos hq] at hy he
      obtain ⟨m', k', r'⟩ := T.reach q y e hy he
      exact ⟨m', k', up r'⟩
    · rw [if_neg hq] at hy he
      by_cases hq2 : q = p
      · subst hq2
        rw [Nat.sub_self] at hy he
        cases hy
        cases he
        exact ⟨m, k, up r⟩
      · obtain ⟨q', rfl⟩ : ∃ q', q = p + (q' + 1) := ⟨q - p - 1, by omega⟩
        rw [show p + (q' + 1) - p = q' + 1 by omega, List.getElem?_cons_succ, List.getElem?_drop] at hy he
        obtain ⟨m', k', r'⟩ := T.reach (p + q') y e hy he
        exact ⟨m', k', up r'⟩
  · have := len
    rw [Array.length_toList, Array.length_toList] at this
    exact this

/-! ### laying all anew -/
def occ (own : Array (Option Nat)) (j : Nat) : Prop := ∃ i : Nat, own[j]? = some (some i)
structure OwnOk (mask : Nat) (own : Array (Option Nat)) (n : Nat) (H : Nat → Int) : Prop where
  size : own.size = mask + 1
  reach : ∀ (j i : Nat), own[j]? = some (some i) → i < n ∧ ∃ m k, Reach mask (occ own) (H i) j m k
  all : ∀ (i : Nat), i < n → ∃ j : Nat, own[j]? = some (some i)
  one : ∀ (i j j' : Nat), own[j]? = some (some i) → own[j']? = some (some i) → j = j'
theorem own_room {mask n : Nat} {own : Array (Option Nat)} {H : Nat → Int} (O : OwnOk mask own n H) (hn : n ≤ mask) : ∃ e, e ≤ mask ∧ ¬ occ own e := by
  refine Classical.byContradiction fun z => ?_
  have hs : ∀ e, e < mask + 1 → occ own e := fun e he => Classical.byContradiction fun h => z ⟨e, by omega, h⟩
  have h1 : ((List.range (mask + 1)).map fun j => (own.getD j none).getD 0).Nodup := by
    refine List.pairwise_map.mpr (List.Pairwise.imp_of_mem (fun {a b} ha hb hab => ?_) (List.nodup_range (n := mask + 1)))
    obtain ⟨i, hi⟩ := hs a (List.mem_range.mp ha)
    obtain ⟨i', hi'⟩ := hs b (List.mem_range.mp hb)
    have g1 : own.getD a none = some i := by rw [Array.getD_eq_getD_getElem?, hi]; rfl
    have g2 : own.getD b none = some i' := by rw [Array.getD_eq_getD_getElem?, hi']; rfl
    rw [g1, g2]
    intro q
    have q' : i = i' := q
    subst q'
    exact hab (O.one i a b hi hi')
  have h2 : ∀ x ∈ ((List.range (mask + 1)).map fun j => (own.getD j none).getD 0), x ∈ List.range n := fun x hx => by
    obtain ⟨j, hj, rfl⟩ := List.mem_map.mp hx
    obtain ⟨i, hi⟩ := hs j (List.mem_range.mp hj)
    have g1 : own.getD j none = some i := by rw [Array.getD_eq_getD_getElem?, hi]; rfl
    rw [g1]
    exact List.mem_range.mpr (O.reach j i hi).1
  have := List.Nodup.length_le_of_subset h1 h2
  rw [List.length_map, List.length_range, List.length_range] at this
  omega
theorem own_none {own : Array (Option Nat)} {mask j : Nat} (hs : own.size = mask + 1) (hj : j ≤ mask) : (own.getD j (some 0)).isNone = true ↔ ¬ occ own j := by
  have hl : j < own.size := by omega
  rw [Array.getD_eq_getD_getElem?, Array.getElem?_eq_getElem hl]
  unfold occ
  rw [Array.getElem?_eq_getElem hl]
  cases own[j] with
  | none => simp
  | some i => simp
theorem free_go {mask : Nat} {own : Array (Option Nat)} (hs : own.size = mask + 1) {h : Int} {j m1 k1 : Nat} (r : Reach mask (occ own) h j m1 k1) (hf : ¬ occ own j) :
    ∀ (d f m : Nat), m + d = m1 → d < f → SetTable.layClean.free mask own f (leapN mask h m).1 (leapN mask h m).2 = some j := by
  intro d
  induction d with
  | zero =>
    intro f m hm hf2
    obtain ⟨g, rfl⟩ : ∃ g, f = g + 1 := ⟨f - 1, by omega⟩
    have e : m = m1 := by omega
    subst e
    rw [SetTable.layClean.free]
    have hfind : (List.range (SetTable.runEnd mask (leapN mask h m).1 + 1 - (leapN mask h m).1)).find? (fun k => (own.getD ((leapN mask h m).1 + k) (some 0)).isNone) = some k1 := by
      rw [List.find?_range_eq_some]
      have hk := r.kl
      have hle := leap_in mask h m
      have hre : (leapN mask h m).1 ≤ SetTable.runEnd mask (leapN mask h m).1 ∧ SetTable.runEnd mask (leapN mask h m).1 ≤ mask := by unfold SetTable.runEnd; split <;> omega
      unfold win at hk
      refine ⟨?_, List.mem_range.mpr (by omega), fun k hk2 => ?_⟩
      · rw [own_none hs (by omega), ← r.eq]
        exact hf
      · have := r.here k hk2
        rw [Bool.not_eq_true', Bool.eq_false_iff]
        intro z
        exact (own_none hs (by omega)).mp z this
    rw [hfind]
    dsimp only
    rw [r.eq]
  | succ d ih =>
    intro f m hm hf2
    obtain ⟨g, rfl⟩ : ∃ g, f = g + 1 := ⟨f - 1, by omega⟩
    rw [SetTable.layClean.free]
    have hfind : (List.range (SetTable.runEnd mask (leapN mask h m).1 + 1 - (leapN mask h m).1)).find? (fun k => (own.getD ((leapN mask h m).1 + k) (some 0)).isNone) = none := by
      rw [List.find?_eq_none]
      intro k hk z
      have hk := List.mem_range.mp hk
      have hin := win_in (leap_in mask h m)
      have hle := leap_in mask h m
      have ha := r.ahead m (by omega) k (by unfold win; omega)
      have hre : (leapN mask h m).1 ≤ SetTable.runEnd mask (leapN mask h m).1 ∧ SetTable.runEnd mask (leapN mask h m).1 ≤ mask := by unfold SetTable.runEnd; split <;> omega
      exact (own_none hs (by omega)).mp z ha
    rw [hfind]
    exact ih g (m + 1) (by omega) (by omega)
theorem own_put {mask n : Nat} {own : Array (Option Nat)} {H : Nat → Int} (O : OwnOk mask own n H) {j m k : Nat} (r : Reach mask (occ own) (H n) j m k) (hf : ¬ occ own j) : OwnOk mask (own.setIfInBounds j (some n)) (n + 1) H := by
  have hj : j < own.size := by rw [O.size]; exact Nat.lt_succ_of_le r.le
  have get : ∀ x, (own.setIfInBounds j (some n))[x]? = if x = j then some (some n) else own[x]? := fun x => by
    rw [Array.getElem?_setIfInBounds]
    by_cases h : j = x
    · subst h
      rw [if_pos rfl, if_pos rfl, if_pos hj]
    · rw [if_neg h, if_neg (Ne.symm h)]
  have up : ∀ x, occ own x → occ (own.setIfInBounds j (some n)) x := fun x ⟨i, hi⟩ => by
    refine ⟨i, ?_⟩
    rw [get, if_neg (fun z => hf (by rw [← z]; exact ⟨i, hi⟩))]
    exact hi
  refine ⟨by rw [Array.size_setIfInBounds]; exact O.size, fun x i hx => ?_, fun i hi => ?_, fun i x y hx hy => ?_⟩
  · rw [get] at hx
    by_cases h : x = j
    · rw [if_pos h] at hx
      cases hx
      subst h
      exact ⟨by omega, m, k, r.mono up⟩
    · rw [if_neg h] at hx
      obtain ⟨a, m', k', r'⟩ := O.reach x i hx
      exact ⟨by omega, m', k', r'.mono up⟩
  · by_cases h : i = n
    · exact ⟨j, by rw [get, if_pos rfl, h]⟩
    · obtain ⟨x, hx⟩ := O.all i (by omega)
      exact ⟨x, by rw [get, if_neg (fun z => hf (by rw [← z]; exact ⟨i, hx⟩))]; exact hx⟩
  · rw [get] at hx hy
    by_cases h1 : x = j
    · by_cases h2 : y = j
      · rw [h1, h2]
      · rw [if_pos h1] at hx
        rw [if_neg h2] at hy
        cases hx
        have := (O.reach y _ hy).1
        omega
    · by_cases h2 : y = j
      · rw [if_neg h1] at hx
        rw [if_pos h2] at hy
        cases hy
        have := (O.reach x _ hx).1
        omega
      · rw [if_neg h1] at hx
        rw [if_neg h2] at hy
        exact O.one i x y hx hy
theorem own_new (mask : Nat) (H : Nat → Int) : OwnOk mask (Array.replicate (mask + 1) none) 0 H := by
  have get : ∀ j i : Nat, (Array.replicate (mask + 1) (none : Option Nat))[j]? ≠ some (some i) := fun j i z => by
    rw [Array.getElem?_replicate] at z
    split at z <;> simp at z
  exact ⟨by simp, fun j i h => absurd h (get j i), fun i hi => by omega, fun i j j' h => absurd h (get j i)⟩
def layStep (mask : Nat) (acc : Option (Array (Option Nat) × Nat)) (h : Int) : Option (Array (Option Nat) × Nat) := do
  let (owner, k) ← acc
  let j ← SetTable.layClean.free mask owner (SetTable.turns mask) (SetTable.bits h % (mask + 1)) (SetTable.bits h)
  pure (owner.setIfInBounds j (some k), k + 1)
theorem lay_fold {mask e : Nat} (he : mask + 1 = 2 ^ e) {H : Nat → Int} : ∀ (hs : List Int) (n : Nat) (own : Array (Option Nat)), OwnOk mask own n H → n + hs.length ≤ mask + 1 → (∀ (i : Nat) (h : Int), hs[i]? = some h → H (n + i) = h) →
    ∃ own', hs.foldl (layStep mask) (some (own, n)) = some (own', n + hs.length) ∧ OwnOk mask own' (n + hs.length) H
  | [], n, own, O, _, _ => ⟨own, rfl, O⟩
  | h :: hs, n, own, O, hn, hH => by
    rw [List.length_cons] at hn
    obtain ⟨s, hs1, hs2⟩ := own_room O (by omega)
    have h0 : H n = h := hH 0 h rfl
    obtain ⟨j, m, k, r, hf⟩ := first_free he h hs1 hs2
    have hfree := free_go O.size r hf m (SetTable.turns mask) 0 (by omega) (by unfold SetTable.turns; exact r.lt)
    have O' := own_put O (by rw [h0]; exact r) hf
    obtain ⟨own', e1, e2⟩ := lay_fold he hs (n + 1) _ O' (by omega) (fun i h hi => by rw [show n + 1 + i = n + (i + 1) by omega]; exact hH (i + 1) h hi)
    refine ⟨own', ?_, by rw [List.length_cons, show n + (hs.length + 1) = n + 1 + hs.length by omega]; exact e2⟩
    rw [List.foldl_cons, List.length_cons, show n + (hs.length + 1) = n + 1 + hs.length by omega, ← e1]
    congr 1
    unfold layStep
    have hfree' : SetTable.layClean.free mask own (SetTable.turns mask) (SetTable.bits h % (mask + 1)) (SetTable.bits h) = some j := hfree
    rw [Option.bind_eq_bind]
    dsimp only [Option.bind]
    rw [hfree']
    rfl
theorem lay_clean {mask e : Nat} (he : mask + 1 = 2 ^ e) (hs : Array Int) (hn : hs.size ≤ mask + 1) : ∃ own, SetTable.layClean mask hs = some own ∧ OwnOk mask own hs.size (fun i => hs.getD i 0) := by
  obtain ⟨own, e1, e2⟩ := lay_fold he (H := fun i => hs.getD i 0) hs.toList 0 _ (own_new mask _) (by rw [Array.length_toList]; omega) (fun i h hi => by
    rw [Nat.zero_add, Array.getD_eq_getD_getElem?, ← Array.getElem?_toList, hi]
    rfl)
  refine ⟨own, ?_, by rw [Array.length_toList, Nat.zero_add] at e2; exact e2⟩
  unfold SetTable.layClean
  have : hs.foldl (layStep mask) (some (Array.replicate (mask + 1) none, 0)) = some (own, 0 + hs.toList.length) := by
    rw [← Array.foldl_toList]
    exact e1
  show (hs.foldl (layStep mask) (some (Array.replicate (mask + 1) none, 0))).map (·.1) = some own
  rw [this]
  rfl
theorem above_go : ∀ (f k n : Nat), n < 2 ^ (k + f) → ∃ k', k ≤ k' ∧ SetTable.sizeAbove.go n f (2 ^ k) = 2 ^ k' ∧ n < 2 ^ k' ∧ (2 ^ k' = 2 ^ k ∨ 2 ^ k' ≤ 2 * n)
  | 0, k, n, h => ⟨k, Nat.le_refl _, rfl, h, .inl rfl⟩
  | f + 1, k, n, h => by
    rw [SetTable.sizeAbove.go]
    by_cases c : 2 ^ k ≤ n
    · rw [if_pos c, ← Nat.pow_succ]
      obtain ⟨k', h1, h2, h3, h4⟩ := above_go f (k + 1) n (by rw [show k + 1 + f = k + (f + 1) by omega]; exact h)
      refine ⟨k', by omega, h2, h3, .inr ?_⟩
      rw [Nat.pow_succ] at h4
      omega
    · rw [if_neg c]
      exact ⟨k, Nat.le_refl _, rfl, by omega, .inl rfl⟩
theorem above_of {n : Nat} (h : n ≤ 1000000000) : ∃ k, 3 ≤ k ∧ SetTable.sizeAbove n = 2 ^ k ∧ n < 2 ^ k ∧ (2 ^ k = 2 ^ 3 ∨ 2 ^ k ≤ 2 * n) := above_go 64 3 n (Nat.lt_of_le_of_lt h (by decide))
theorem grown_of (n : Nat) : 2 * n ≤ SetTable.grown n ∧ SetTable.grown n ≤ 4 * n := by
  unfold SetTable.grown
  split <;> omega
/-- all laid anew: no place is lost -/
theorem relaid_ok (t : SetTable) (es : Array (Int × Value)) (hn : es.size ≤ 1000000) : ∃ t' order, t.relaid (es.map (·.1)) (SetTable.grown es.size) = some (t', order) ∧ order.toList.Perm (List.range es.size) ∧ TabOk t' (order.filterMap (es[·]?)) ∧ t'.led = t.led ∧ es.size * 5 < t'.mask * 3 ∧ SetTable.sizeAbove (SetTable.grown es.size) ≤ 8000008 ∧ t'.plain = t.plain := by
  obtain ⟨g1, g2⟩ := grown_of es.size
  obtain ⟨k, k3, hk, hlt, hup⟩ := above_of (n := SetTable.grown es.size) (by omega)
  have hge : 8 ≤ 2 ^ k := Nat.le_trans (show 8 ≤ 2 ^ 3 by decide) (Nat.pow_le_pow_right (by decide) k3)
  obtain ⟨own, eo, O⟩ := lay_clean (mask := SetTable.sizeAbove (SetTable.grown es.size) - 1) (e := k) (by omega) (es.map (·.1)) (by rw [Array.size_map]; omega)
  rw [Array.size_map] at O
  generalize hmask : SetTable.sizeAbove (SetTable.grown es.size) - 1 = mask at *
  have hL : ∀ (q : Nat × Nat), q ∈ (List.range (mask + 1)).filterMap (fun j => (own.getD j none).map (j, ·)) ↔ own[q.1]? = some (some q.2) := fun q => by
    rw [List.mem_filterMap]
    constructor
    · rintro ⟨j, hj, e⟩
      have hj := List.mem_range.mp hj
      have hl : j < own.size := by rw [O.size]; exact hj
      rw [Array.getD_eq_getD_getElem?, Array.getElem?_eq_getElem hl] at e
      cases ho : own[j] with
      | none => rw [ho] at e; cases e
      | some i =>
        rw [ho] at e
        cases e
        rw [Array.getElem?_eq_getElem hl, ho]
    · intro h
      have hl := (Array.getElem?_eq_some_iff.mp h).1
      rw [O.size] at hl
      refine ⟨q.1, List.mem_range.mpr hl, ?_⟩
      rw [Array.getD_eq_getD_getElem?, h]
      rfl
  have hris := (ris_live (fun j => own.getD j none) (List.range (mask + 1)) List.pairwise_lt_range).1
  generalize hLL : (List.range (mask + 1)).filterMap (fun j => (own.getD j none).map (j, ·)) = L at *
  have hnd : (L.map (·.2)).Nodup := by
    refine List.pairwise_map.mpr (List.Pairwise.imp_of_mem (fun {a b} ha hb hab => ?_) (List.pairwise_map.mp hris))
    intro z
    have h1 := (hL a).mp ha
    have h2 := (hL b).mp hb
    rw [← z] at h2
    have := O.one a.2 a.1 b.1 h1 h2
    omega
  have hperm : (L.map (·.2)).Perm (List.range es.size) := (List.perm_ext_iff_of_nodup hnd List.nodup_range).mpr fun i => by
    rw [List.mem_map, List.mem_range]
    constructor
    · rintro ⟨q, hq, rfl⟩
      exact (O.reach q.1 q.2 ((hL q).mp hq)).1
    · intro hi
      obtain ⟨j, hj⟩ := O.all i hi
      exact ⟨(j, i), (hL (j, i)).mpr hj, rfl⟩
  have hlen : L.length = es.size := by
    have := hperm.length_eq
    rw [List.length_map, List.length_range] at this
    exact this
  have hes : ((L.map (·.2)).toArray.filterMap (es[·]?)).toList = L.map fun q => es.toList.getD q.2 (0, .none) := by
    rw [Array.toList_filterMap]
    show List.filterMap _ (L.map (·.2)) = _
    rw [List.filterMap_map]
    have : ∀ l : List (Nat × Nat), (∀ q ∈ l, q.2 < es.size) → l.filterMap ((fun x => es[x]?) ∘ fun q => q.2) = l.map fun q => es.toList.getD q.2 (0, .none) := by
      intro l
      induction l with
      | nil => intro _; rfl
      | cons q l ih =>
        intro h
        have hq := h q List.mem_cons_self
        have e1 : ((fun x => es[x]?) ∘ fun q => q.2) q = some (es.toList.getD q.2 (0, .none)) := by
          show es[q.2]? = _
          rw [Array.getElem?_eq_getElem hq, List.getD_eq_getElem?_getD, Array.getElem?_toList, Array.getElem?_eq_getElem hq]
          rfl
        rw [List.filterMap_cons_some e1, List.map_cons, ih fun x hx => h x (List.mem_cons_of_mem _ hx)]
    exact this L fun q hq => (O.reach q.1 q.2 ((hL q).mp hq)).1
  refine ⟨{ mask := mask, place := (L.map (·.1)).toArray, dummies := #[], finger := t.finger, led := t.led, moves := t.movedTo mask, plain := t.plain }, (L.map (·.2)).toArray, ?_, hperm, ?_, rfl, ?_, ?_, rfl⟩
  · unfold SetTable.relaid SetTable.laid
    rw [hmask, eo, Option.bind_eq_bind]
    dsimp only [Option.bind]
    rw [hLL]
    rfl
  · refine ⟨⟨k, k3, by dsimp only; omega⟩, rfl, hris, fun j hj => ?_, ?_, ?_, fun p j e hj he => ?_⟩
    · obtain ⟨q, hq, rfl⟩ := List.mem_map.mp hj
      have := (Array.getElem?_eq_some_iff.mp ((hL q).mp hq)).1
      rw [O.size] at this
      dsimp only
      omega
    · rw [hes]
      simp
    · show (L.map (·.1)).length ≤ mask
      rw [List.length_map]
      omega
    · rw [hes] at he
      have hj : (L.map (·.1))[p]? = some j := hj
      rw [List.getElem?_map] at hj he
      obtain ⟨q, hq, rfl⟩ := Option.map_eq_some_iff.mp hj
      rw [hq] at he
      have ho := (hL q).mp (List.mem_of_getElem? hq)
      obtain ⟨hi, m, k', r⟩ := O.reach q.1 q.2 ho
      have he2 : e.1 = (es.map (·.1)).getD q.2 0 := by
        have : es.toList.getD q.2 (0, .none) = e := Option.some.inj he
        rw [← this, List.getD_eq_getElem?_getD, Array.getElem?_toList, Array.getElem?_eq_getElem hi, Array.getD_eq_getD_getElem?, Array.getElem?_map, Array.getElem?_eq_getElem hi]
        rfl
      refine ⟨m, k', ?_⟩
      rw [he2]
      refine r.mono fun x ⟨i, hx⟩ => ?_
      exact List.mem_map.mpr ⟨(x, i), (hL (x, i)).mpr hx, rfl⟩
  · dsimp only
    omega
  · rw [hk]
    omega
end TD

namespace TD
open PySem PySem.Spec PyProof.Rows L2
section
variable {P : Program} {w : World} {A : Around} {E : Value → Shared → Prop} {s : Shared} {a : Addr}
theorem hash_small {k : Int} (h0 : 0 ≤ k) (h1 : k < 1000000) : hashInt k = k := by
  have e : rawHash k = k := by
    unfold rawHash
    have e1 : ((k.natAbs : Nat) : Int) % ((2 ^ 61 - 1 : Nat) : Int) = k := by
      rw [show ((k.natAbs : Nat) : Int) = k by omega]
      exact Int.emod_eq_of_lt h0 (Int.lt_of_lt_of_le h1 (by decide))
    have e2 : (k == -1) = false := by rw [beq_eq_false_iff_ne]; omega
    dsimp only
    rw [e1, if_neg (show ¬ k < 0 by omega), e2]
    rfl
  unfold hashInt
  rw [e, if_neg (by rw [beq_iff_eq]; omega)]
theorem TabOk.plain {t : SetTable} {es : Array (Int × Value)} (T : TabOk t es) (b : Bool) : TabOk { t with plain := b } es := ⟨T.pow, T.dum, T.ris, T.le, T.size, T.few, T.reach⟩
theorem TabOk.fits {t : SetTable} {es : Array (Int × Value)} (T : TabOk t es) : t.fits es.size = true := by
  have h1 := T.size
  have h2 := T.few
  rw [Array.length_toList, Array.length_toList] at h1
  rw [Array.length_toList] at h2
  unfold SetTable.fits SetTable.fill
  rw [T.dum, h1, beq_self_eq_true, Bool.true_and, decide_eq_true_eq]
  show es.size + 0 ≤ t.mask
  omega
/-- the members of a set and its table -/
structure SetGo (w : World) (o : Obj) (ns : List Int) (es : Array (Int × Value)) (ep : Nat) (t : SetTable) : Prop where
  ex : o.ExactSet
  data : o.data = .set es ep t
  good : ∀ e ∈ es.toList, GoodE e
  nd : (es.toList.map keyOf).Nodup
  mem : ∀ k, k ∈ ns ↔ k ∈ es.toList.map keyOf
  rng : ∀ k ∈ ns, 0 ≤ k ∧ k < 1000000
  tab : TabOk t es
  led : w.params.followText "set-order" = true ∨ t.led = true
  plain : t.plain = true
def Full (t : SetTable) : Prop := t.place.size * 5 < t.mask * 3
def SetG (w : World) (h : Heap) (a : Addr) (ns : List Int) : Prop := ∃ o es ep t, h.get? a = some o ∧ SetGo w o ns es ep t ∧ Full t
theorem SetGo.keys {w : World} {o : Obj} {ns : List Int} {es : Array (Int × Value)} {ep : Nat} {t : SetTable} (S : SetGo w o ns es ep t) : es.toList.map (·.1) = es.toList.map keyOf := by
  refine List.map_congr_left fun e he => ?_
  obtain ⟨k, tk, h1, h2⟩ := S.good e he
  have hk : keyOf e = k := by unfold keyOf; rw [h1]
  have hr := S.rng k ((S.mem k).mpr (List.mem_map.mpr ⟨e, he, hk⟩))
  rw [h2, hash_small hr.1 hr.2, hk]
theorem SetGo.len {w : World} {o : Obj} {ns : List Int} {es : Array (Int × Value)} {ep : Nat} {t : SetTable} (S : SetGo w o ns es ep t) : es.size ≤ ns.length := by
  have := List.Nodup.length_le_of_subset S.nd fun k hk => (S.mem k).mpr hk
  rw [List.length_map, Array.length_toList] at this
  exact this
/-- one more is laid -/
theorem lay_one {o : Obj} {ns : List Int} {es : Array (Int × Value)} {ep : Nat} {t : SetTable} (S : SetGo w o ns es ep t) (hfull : Full t) {k : Int} {tk : Tok} (h0 : 0 ≤ k) (h1 : k < 1000000) (hn : k ∉ ns) :
    ∃ j, t.freeSlot (hashInt k) = some (j, false) ∧ (∀ hashAt : Nat → Int, (∀ i e, es.toList[i]? = some e → hashAt i = e.1) → t.probe hashAt (hashInt k) (t.probeStart (hashInt k)) = some (.empty j none)) ∧
      TabOk (t.put j).1 (SetTable.insertAt es (t.put j).2 (hashInt k, .int k tk)) ∧ (t.put j).1.led = t.led ∧ (t.put j).1.plain = true ∧
      ∀ o' ep' t', o'.ExactSet → t'.plain = true → TabOk t' (SetTable.insertAt es (t.put j).2 (hashInt k, .int k tk)) → t'.led = t.led → o'.data = .set (SetTable.insertAt es (t.put j).2 (hashInt k, .int k tk)) ep' t' → SetGo w o' (ns ++ [k]) (SetTable.insertAt es (t.put j).2 (hashInt k, .int k tk)) ep' t' := by
  obtain ⟨j, m, k', r, hj⟩ := free_at S.tab (hashInt k)
  have hsz := S.tab.size
  rw [Array.length_toList, Array.length_toList] at hsz
  have hmask : 7 ≤ t.mask := by
    obtain ⟨e, e3, he⟩ := S.tab.pow
    have : 2 ^ 3 ≤ 2 ^ e := Nat.pow_le_pow_right (by decide) e3
    omega
  unfold Full at hfull
  obtain ⟨p1, p2, p3, p4, p5⟩ := put_ok (x := .int k tk) S.tab r hj (by omega)
  have hash_ne : ∀ e ∈ es.toList, e.1 ≠ hashInt k := fun e he z => by
    have hm : e.1 ∈ es.toList.map (·.1) := List.mem_map.mpr ⟨e, he, rfl⟩
    rw [S.keys, z, hash_small h0 h1] at hm
    exact hn ((S.mem k).mpr hm)
  refine ⟨j, ?_, fun hashAt hH => ?_, p1, p3, p5.trans S.plain, fun o' ep' t' hex hpl T hl hd => ?_⟩
  · unfold SetTable.freeSlot
    rw [probe_new S.tab (fun _ => hashInt k + 1) (hashInt k) (fun i _ => by rw [beq_eq_false_iff_ne]; omega) r hj]
    rfl
  · refine probe_new S.tab hashAt (hashInt k) (fun i hi => ?_) r hj
    have he : es.toList[i]? = some (es.toList[i]'(by rw [Array.length_toList]; exact hi)) := List.getElem?_eq_getElem _
    rw [hH i _ he, beq_eq_false_iff_ne]
    exact hash_ne _ (List.mem_of_getElem? he)
  · have pm : (SetTable.insertAt es (t.put j).2 (hashInt k, .int k tk)).toList.Perm ((hashInt k, .int k tk) :: es.toList) := (SetTable.insertAt_perm _ _ _).trans (by rw [Array.toList_push]; exact List.perm_append_singleton _ _)
    have pk := pm.map keyOf
    refine ⟨hex, hd, fun e he => ?_, pk.nodup_iff.mpr (List.nodup_cons.mpr ⟨fun z => hn ((S.mem k).mpr z), S.nd⟩), fun i => ?_, fun i hi => ?_, T, S.led.imp id fun z => by rw [hl]; exact z, hpl⟩
    · rcases List.mem_cons.mp (pm.mem_iff.mp he) with z | z
      · rw [z]; exact ⟨k, tk, rfl, rfl⟩
      · exact S.good e z
    · rw [pk.mem_iff, List.map_cons, List.mem_cons, List.mem_append, List.mem_singleton, S.mem i]
      exact Or.comm
    · rcases List.mem_append.mp hi with hi | hi
      · exact S.rng i hi
      · rw [List.mem_singleton.mp hi]
        exact ⟨h0, h1⟩
theorem same_mem {o : Obj} {ns ms : List Int} {es : Array (Int × Value)} {ep : Nat} {t : SetTable} (S : SetGo w o ns es ep t) (h : ∀ k, k ∈ ms ↔ k ∈ ns) : SetGo w o ms es ep t :=
  ⟨S.ex, S.data, S.good, S.nd, fun k => (h k).trans (S.mem k), fun k hk => S.rng k ((h k).mp hk), S.tab, S.led, S.plain⟩
/-- .. and all anew, if it is too full -/
theorem laid_anew {o : Obj} {ns : List Int} {es : Array (Int × Value)} {ep : Nat} {t : SetTable} (S : SetGo w o ns es ep t) (hn : ns.length ≤ 1000000) : ∃ t' order, t.relaid (es.map (·.1)) (SetTable.grown es.size) = some (t', order) ∧ coversAll order es.size = true ∧ t'.fits (order.filterMap (es[·]?)).size = true ∧
    (order.filterMap (es[·]?)).size = es.size ∧ Full t' ∧ SetTable.sizeAbove (SetTable.grown es.size) ≤ 8000008 ∧ ∀ o' ep', o'.ExactSet → o'.data = .set (order.filterMap (es[·]?)) ep' t' → SetGo w o' ns (order.filterMap (es[·]?)) ep' t' := by
  have hsz := S.len
  obtain ⟨t', order, e1, e2, e3, e4, e5, e6, e7⟩ := relaid_ok t es (by omega)
  have hs2 := e3.size
  have cov : coversAll order es.size = true := List.isPerm_iff.mpr e2
  have hfit := e3.fits
  have hall : relayAll t es (SetTable.grown es.size) = (order.filterMap (es[·]?), t', false) := by
    unfold relayAll
    rw [e1]
    dsimp only
    rw [cov, hfit]
    rfl
  have pm := relayAll_perm t es (SetTable.grown es.size)
  rw [hall] at pm
  have hsize : (order.filterMap (es[·]?)).size = es.size := by
    have := pm.length_eq
    rw [Array.length_toList, Array.length_toList] at this
    exact this
  refine ⟨t', order, e1, cov, hfit, hsize, ?_, e6, fun o' ep' hex hd => ?_⟩
  · unfold Full
    rw [Array.length_toList, Array.length_toList] at hs2
    omega
  · have pk := pm.map keyOf
    exact ⟨hex, hd, fun e he => S.good e (pm.mem_iff.mp he), pk.nodup_iff.mpr S.nd, fun k => (S.mem k).trans pk.mem_iff.symm, S.rng, e3, S.led.imp id fun z => by rw [e4]; exact z, e7.trans S.plain⟩
theorem size_ok {n : Nat} (h : n ≤ 1000001) : n ≤ sizeLine := by
  rw [sizeLine_eq]
  omega
theorem kept_at {h : Heap} {o : Obj} {es es' : Array (Int × Value)} {ep : Nat} {t t' : SetTable} (ho : h.get? a = some o) (hd : o.data = .set es ep t) : (h.update a (Obj.putSet es' t')).get? a = some { o with data := .set es' (ep + 1) t' } := store_at ho hd
theorem seen_none {k : Int} {tk : Tok} {Q : Bool → Shared → Prop} (l : List Value) (hl : ∀ y ∈ l, ∃ k t, y = Value.int k t) (h : Q false s) : wpAny (model P w) A (searchCouldBeSeen (.int k tk) l) Q E s := by
  unfold searchCouldBeSeen
  induction l with
  | nil => exact wpAny_pure h
  | cons y r ih =>
    obtain ⟨k', t', rfl⟩ := hl y List.mem_cons_self
    simp only [List.forIn_cons, carriedByValue, Bool.and_self, Bool.or_true, ↓reduceIte, pure_bind]
    exact ih fun y hy => hl y (List.mem_cons_of_mem _ hy)
/-- an element is added -/
theorem add_go {ns : List Int} {k : Int} {tk : Tok} {Q : Bool → Shared → Prop} (R : SetG w s.heap a ns) (h0 : 0 ≤ k) (h1 : k < 1000000) (hlen : ns.length ≤ 900000)
    (hQ : ∀ (b : Bool) h', Heap.SameBut a s.heap h' → SetG w h' a (ns ++ [k]) → Q b { s with heap := h' }) : wpAny (model P w) A (setAddHashed a (.int k tk) ((intKind P w).hash k)) Q E s := by
  obtain ⟨o, es, ep, t, ho, S, hfull⟩ := R
  have hkey : (intKind P w).is k (.int k tk) = true := intKind_is P w k tk
  have hsc : (Value.int k tk).scannable = true := rfl
  have hf := S.tab.fits
  have hel : ElemsOf (intKind P w) es.toList := good_elems S.good
  have hd := S.data
  have hll := S.len
  -- what is there stays
  have old : k ∈ ns → ∀ b, Q b s := fun hk b => by
    have := hQ b s.heap (Heap.SameBut.refl a s.heap) ⟨o, es, ep, t, ho, same_mem S fun i => by
      rw [List.mem_append, List.mem_singleton]
      exact ⟨fun z => z.elim id fun e => by rw [e]; exact hk, .inl⟩, hfull⟩
    exact this
  have hash_eq : (intKind P w).hash k = hashInt k := rfl
  unfold setAddHashed setAddHashedIn
  refine wpAny_holding (wpAny_bind (wpAny_setState_of ho hd hf ?_))
  dsimp only
  by_cases hbs : byScan (.int k tk) es = true
  · rw [if_pos hbs]
    unfold setAddByScan
    refine wpAny_bind (wpAny_bind (wpAny_rule (wpAny_bind (wpAny_setScan_of hkey ho hd hf hel ?_))))
    cases hfi : List.findIdx? (fun e => (intKind P w).is k e.2) es.toList with
    | some j =>
      obtain ⟨hj, pj, _⟩ := List.findIdx?_eq_some_iff_getElem.mp hfi
      have hk : k ∈ ns := (S.mem k).mpr ((good_mem (P := P) (w := w) S.good k).2 ⟨es.toList[j], List.getElem_mem hj, pj⟩)
      exact wpAny_pure (wpAny_pure (old hk false))
    | none =>
      have hk : k ∉ ns := fun z => by
        obtain ⟨e, he, q⟩ := (good_mem (P := P) (w := w) S.good k).1 ((S.mem k).mp z)
        have c := List.findIdx?_eq_none_iff.mp hfi e he
        rw [q] at c
        cases c
      obtain ⟨j, f1, f2, f3, f4, f6, f5⟩ := lay_one (tk := tk) S hfull h0 h1 hk
      have hlay : layNew t es ((intKind P w).hash k) (.int k tk) = (SetTable.insertAt es (t.put j).2 (hashInt k, .int k tk), (t.put j).1, false, false) := by
        rw [hash_eq]
        unfold layNew
        rw [f1]
        dsimp only
        have := f3.fits
        unfold SetTable.orStandIn
        rw [this]
        rfl
      dsimp only
      rw [hlay]
      dsimp only
      generalize SetTable.insertAt es (t.put j).2 (hashInt k, .int k tk) = es1 at *
      generalize (t.put j).1 = t1 at *
      have hgw : ∀ (b : Bool) {s₁ : Shared} {Q' : Unit → Shared → Prop}, Q' () s₁ → wpAny (model P w) A (match b with | true => rule "set.scan.the-table-gave-way" | false => pure ()) Q' E s₁ :=
        fun b s₁ Q' q => by cases b <;> first | exact wpAny_pure q | exact wpAny_rule q
      -- stored, and all laid anew if too full
      have tail : ∀ t2 : SetTable, TabOk t2 es1 → t2.led = t.led → t2.plain = true → wpAny (model P w) A (do
          storeSet a es1 t2
          if (!false && t2.tooFull) = true then do
              (match (relayAll t2 es1 (SetTable.grown es1.size)).2.2 with | true => rule "set.scan.the-table-gave-way" | false => pure ())
              storeSet a (relayAll t2 es1 (SetTable.grown es1.size)).1 (relayAll t2 es1 (SetTable.grown es1.size)).2.1
              pure (some true)
            else pure (some true)) (fun r s' => ∃ b, r = some b ∧ Q b s') E s := fun t2 T2 l2 pl2 => by
        have ho1 := kept_at (es' := es1) (t' := t2) ho hd
        have hex1 : ({ o with data := .set es1 (ep + 1) t2 } : Obj).ExactSet := S.ex
        have S1 := f5 _ (ep + 1) t2 hex1 pl2 T2 l2 rfl
        have hl1 := S1.len
        rw [List.length_append, List.length_singleton] at hl1
        refine wpAny_bind (wpAny_storeSet_of ho hd ?_ (size_ok (by omega)))
        have sb1 := Heap.SameBut.update s.heap a (Obj.putSet es1 t2)
        by_cases htf : t2.tooFull = true
        · rw [htf]
          obtain ⟨t3, order, r1, r2, r3, r4, r5, _, r6⟩ := laid_anew S1 (by rw [List.length_append, List.length_singleton]; omega)
          have hall : relayAll t2 es1 (SetTable.grown es1.size) = (order.filterMap (es1[·]?), t3, false) := by
            unfold relayAll
            rw [r1]
            dsimp only
            rw [r2, r3]
            rfl
          rw [hall]
          refine wpAny_bind (wpAny_pure ?_)
          refine wpAny_bind (wpAny_storeSet_of ho1 rfl ?_ (size_ok (by dsimp only; rw [r4]; omega)))
          have ho2 := kept_at (es' := order.filterMap (es1[·]?)) (t' := t3) ho1 rfl
          exact wpAny_pure ⟨true, rfl, hQ true _ (sb1.trans (Heap.SameBut.update _ a _)) ⟨_, _, _, _, ho2, r6 _ _ S.ex rfl, r5⟩⟩
        · have htf' : t2.tooFull = false := Bool.eq_false_iff.mpr htf
          rw [htf']
          refine wpAny_pure ⟨true, rfl, hQ true _ sb1 ⟨_, _, _, _, ho1, S1, ?_⟩⟩
          unfold SetTable.tooFull SetTable.fill at htf'
          rw [T2.dum] at htf'
          have := of_decide_eq_false htf'
          unfold Full
          have e0 : (#[] : Array Nat).size = 0 := rfl
          omega
      refine wpAny_bind (wpAny_of_eq (a := ()) (by rfl) ?_)
      rw [if_pos f6]
      refine wpAny_bind (wpAny_of_eq (a := true) (by rfl) ?_)
      simp only [↓reduceIte]
      refine wpAny_mono (tail t1 f3 f4 f6) (fun r s' ⟨b, e, q⟩ => ?_) fun _ _ x => x
      subst e
      exact wpAny_pure q
  · rw [if_neg hbs]
    refine wpAny_bind ?_
    unfold setSearch setSearchFrom
    refine wpAny_bind (wpAny_setState_of ho hd hf ?_)
    dsimp only
    have hgw : t.gaveWay = false := by
      obtain ⟨e, e3, he⟩ := S.tab.pow
      unfold SetTable.gaveWay
      rw [beq_eq_false_iff_ne]
      obtain ⟨e', rfl⟩ : ∃ e', e = e' + 1 := ⟨e - 1, by omega⟩
      rw [Nat.pow_succ] at he
      omega
    rw [hgw]
    simp only [Bool.false_eq_true, ↓reduceIte, Option.getD_none, hash_eq]
    have hH : ∀ (i : Nat) (e : Int × Value), es.toList[i]? = some e → (es[i]?.map (·.1)).getD 0 = e.1 := fun i e he => by
      rw [← Array.getElem?_toList, he]
      rfl
    by_cases hk : k ∈ ns
    · obtain ⟨e, he, hke⟩ := List.mem_map.mp ((S.mem k).mp hk)
      obtain ⟨i, hi⟩ := List.mem_iff_getElem?.mp he
      obtain ⟨k', tk', g1, g2⟩ := S.good e he
      have : k' = k := by rw [← hke]; unfold keyOf; rw [g1]
      subst this
      obtain ⟨j, nx, hp, hsl⟩ := probe_old S.tab (fun i => (es[i]?.map (·.1)).getD 0) hH (by rw [S.keys]; exact S.nd) hi
      rw [g2] at hp
      obtain ⟨eh, ey⟩ := e
      have g1 : ey = Value.int k' tk' := g1
      subst g1
      have hi2 : es[i]? = some (eh, Value.int k' tk') := by rw [← Array.getElem?_toList]; exact hi
      have hp2 : ∀ f : Nat → Int, f = (fun i => (es[i]?.map (·.1)).getD 0) → t.probe f (hashInt k') (t.probeStart (hashInt k')) = some (.candidate j i nx) := fun f hf => by rw [hf]; exact hp
      rw [hp2]
      rotate_left
      · rfl
      by_cases hled : t.led = true
      · dsimp only
        rw [hled, hi2]
        simp only [Bool.not_true, Bool.false_eq_true, ↓reduceIte]
        refine wpAny_bind (wpAny_holding (wpAny_eqBool_int ?_))
        refine wpAny_bind (wpAny_setState_of ho hd hf ?_)
        simp only [beq_self_eq_true, Bool.and_self, ↓reduceIte]
        exact wpAny_pure (wpAny_pure (old hk false))
      · dsimp only
        rw [Bool.eq_false_iff.mpr hled, hi2]
        simp only [Bool.not_false, ↓reduceIte]
        refine wpAny_bind (seen_none _ (fun y hy => ?_) ?_)
        · obtain ⟨e, he2, rfl⟩ := List.mem_map.mp hy
          have he3 := (Array.mem_filter.mp (Array.mem_toList_iff.mp he2)).1
          obtain ⟨k2, t2, h2, _⟩ := S.good e (Array.mem_toList_iff.mpr he3)
          exact ⟨k2, t2, h2⟩
        simp only [Bool.false_eq_true, ↓reduceIte]
        refine wpAny_bind (wpAny_holding (wpAny_eqBool_int ?_))
        refine wpAny_bind (wpAny_setState_of ho hd hf ?_)
        simp only [beq_self_eq_true, Bool.and_self, ↓reduceIte]
        exact wpAny_pure (wpAny_pure (old hk false))
    · obtain ⟨j, f1, f2, f3, f4, f6, f5⟩ := lay_one (tk := tk) S hfull h0 h1 hk
      rw [f2]
      rotate_left
      · exact hH
      refine wpAny_pure ?_
      refine wpAny_bind (wpAny_setState_of ho hd hf ?_)
      dsimp only
      have hsz1 : (SetTable.insertAt es (t.put j).2 (hashInt k, .int k tk)).size = es.size + 1 := by
        have := (SetTable.insertAt_perm es (t.put j).2 (hashInt k, Value.int k tk)).length_eq
        rw [Array.length_toList, Array.length_toList, Array.size_push] at this
        exact this
      generalize SetTable.insertAt es (t.put j).2 (hashInt k, .int k tk) = es1 at *
      generalize (t.put j).1 = t1 at *
      have tail : ∀ t2 : SetTable, TabOk t2 es1 → t2.led = t.led → t2.plain = true → wpAny (model P w) A (do
          storeSet a es1 t2
          if (!false && t2.tooFull) = true then do
              setRelay a (SetTable.grown (es.size + 1))
              pure true
            else pure true) Q E s := fun t2 T2 l2 pl2 => by
        have ho1 := kept_at (es' := es1) (t' := t2) ho hd
        have hex1 : ({ o with data := .set es1 (ep + 1) t2 } : Obj).ExactSet := S.ex
        have S1 := f5 _ (ep + 1) t2 hex1 pl2 T2 l2 rfl
        have hl1 := S1.len
        rw [List.length_append, List.length_singleton] at hl1
        refine wpAny_bind (wpAny_storeSet_of ho hd ?_ (size_ok (by omega)))
        have sb1 := Heap.SameBut.update s.heap a (Obj.putSet es1 t2)
        by_cases htf : t2.tooFull = true
        · rw [htf]
          obtain ⟨t3, order, r1, r2, r3, r4, r5, r0, r6⟩ := laid_anew S1 (by rw [List.length_append, List.length_singleton]; omega)
          refine wpAny_bind ?_
          unfold setRelay
          refine wpAny_bind (wpAny_setState_of ho1 rfl T2.fits ?_)
          dsimp only
          rw [← hsz1, if_neg (by have := size_ok (n := 1000001) (Nat.le_refl _); rw [sizeLine_eq]; omega), r1]
          have ho2 := kept_at (es' := order.filterMap (es1[·]?)) (t' := t3) ho1 rfl
          refine wpAny_bind (wpAny_of_eq (a := (order.filterMap (es1[·]?), t3)) ?_ ?_)
          · have hne : ((order.filterMap (es1[·]?)).size != es1.size) = false := by rw [r4]; simp
            show (if ((order.filterMap (es1[·]?)).size != es1.size) = true then _ else _) = _
            rw [if_neg (by rw [hne]; decide)]
          refine wpAny_storeSet_of ho1 rfl ?_ (size_ok (by dsimp only; rw [r4]; omega))
          exact wpAny_pure (hQ true _ (sb1.trans (Heap.SameBut.update _ a _)) ⟨_, _, _, _, ho2, r6 _ _ S.ex rfl, r5⟩)
        · have htf' : t2.tooFull = false := Bool.eq_false_iff.mpr htf
          rw [htf']
          refine wpAny_pure (hQ true _ sb1 ⟨_, _, _, _, ho1, S1, ?_⟩)
          unfold SetTable.tooFull SetTable.fill at htf'
          rw [T2.dum] at htf'
          have := of_decide_eq_false htf'
          unfold Full
          have e0 : (#[] : Array Nat).size = 0 := rfl
          omega
      rw [if_pos f6]
      refine wpAny_bind (wpAny_of_eq (a := true) (by rfl) ?_)
      simp only [↓reduceIte]
      exact tail t1 f3 f4 f6
/-! ### set(l), sorted(s) -/
/-- an empty set's object -/
abbrev bare (w : World) : Obj := { cls := .type "set", dict := none, data := .set #[] 0 (.fresh 0 0 (!w.params.followText "set-order")) }
theorem fresh_ok (led : Bool) : TabOk (.fresh 0 0 led) #[] := ⟨⟨3, Nat.le_refl 3, rfl⟩, rfl, List.Pairwise.nil, fun j hj => (nomatch hj), rfl, Nat.zero_le _, fun p j e hj => (nomatch hj)⟩
theorem bare_ok {h : Heap} (ho : h.get? a = some (bare w)) : SetG w h a [] :=
  ⟨_, #[], 0, _, ho, ⟨⟨rfl, rfl, rfl⟩, rfl, fun e he => (nomatch he), List.nodup_nil, fun k => ⟨fun z => (nomatch z), fun z => (nomatch z)⟩, fun k hk => (nomatch hk), fresh_ok _, by
    cases hw : w.params.followText "set-order"
    · exact .inr rfl
    · exact .inl rfl, rfl⟩, show 0 * 5 < 7 * 3 by decide⟩
theorem SetG.at {h h' : Heap} {ns : List Int} (R : SetG w h a ns) (k : ∀ o, h.get? a = some o → h'.get? a = some o) : SetG w h' a ns := by
  obtain ⟨o, es, ep, t, ho, r⟩ := R
  exact ⟨o, es, ep, t, k o ho, r⟩
/-- the loop that puts all of an iterator's ints into a set -/
theorem fill_go {I : Addr} {fp wr : List Addr} {G : Array GenState → Array GenState → Prop} {n : Nat} {Pv : Nat → Value → Prop} {St : Nat → Shared → Prop} {R : Result → Shared → Prop}
    (W : WalksS P w A.in1 I fp wr G n Pv St) (S : Addr) (hSf : S ∉ fp) (ns : List Int) (hn : n = ns.length) (hb : ns.length ≤ 900000) (hr : ∀ k ∈ ns, 0 ≤ k ∧ k < 1000000) (hval : ∀ (i : Nat) (v : Value), Pv i v → ∃ k t, ns[i]? = some k ∧ v = .int k t) :
    ∀ (d i : Nat) (s : Shared), n - i = d → i ≤ n → St i s → SetG w s.heap S (ns.take i) → (∀ s', Moved (S :: wr) G s s' → SetG w s'.heap S ns → R (.ok (.ret .none)) s') → codeAny (model P w) A (.builtin "set.update.loop" ⟨[.ref S, .ref I], []⟩) R s := by
  have hSw : S ∉ wr := fun h => hSf (W.sub _ h)
  have up : ∀ b ∈ wr, b ∈ S :: wr := fun b hb => List.mem_cons_of_mem _ hb
  intro d
  induction d with
  | zero =>
    intro i s hd hi hst hS hR
    have hin : i = n := by omega
    subst hin
    refine codeAny_builtin F.entry_set_update_loop ?_
    rw [Around.under_plainId F.plain_set_update_loop _]
    show wpAny _ A.in1 (pyNext (.ref I) >>= _) _ _ s
    refine wpAny_bind (W.done s _ _ hst fun s' hm => ?_)
    show wpAny _ A.in1 (ret Value.none) _ _ s'
    rw [List.take_of_length_le (show ns.length ≤ i by omega)] at hS
    exact wpAny_pure (hR s' (hm.mono up) (hS.at fun o e => hm.heap S o hSw e))
  | succ d ih =>
    intro i s hd hi hst hS hR
    have hlt : i < n := by omega
    refine codeAny_builtin F.entry_set_update_loop ?_
    rw [Around.under_plainId F.plain_set_update_loop _]
    show wpAny _ A.in1 (pyNext (.ref I) >>= _) _ _ s
    refine wpAny_bind (W.item i s _ _ hlt hst fun v s' hP hst' hm => ?_)
    obtain ⟨z, t, hz, rfl⟩ := hval i v hP
    have hS' : SetG w s'.heap S (ns.take i) := hS.at fun o e => hm.heap S o hSw e
    have hz2 := hr z (List.mem_of_getElem? hz)
    show wpAny _ A.in1 (holding [Value.int z t] (setAdd S (.int z t)) >>= _) _ _ s'
    refine wpAny_bind (wpAny_holding ?_)
    unfold setAdd
    refine wpAny_holding (wpAny_bind ((intKind P w).pyHash (k := z) (intKind_is _ _ _ _) ?_))
    refine add_go (s := { s' with toks := s'.toks + 1 }) hS' hz2.1 hz2.2 (by rw [List.length_take]; omega) fun b h' hsb hS2 => ?_
    have hS3 : SetG w h' S (ns.take (i + 1)) := by
      rw [List.take_add_one, hz]
      exact hS2
    refine wpAny_pure ⟨plainId_quiet F.plain_set_update_loop _, ih (i + 1) _ (by omega) hlt (W.frame _ s' _ _ hst' (Nat.le_succ _) fun b hb o e => ?_) hS3 fun s'' hm'' hS'' => ?_⟩
    · rw [hsb.2 b (fun h : b = S => hSf (by rw [← h]; exact hb))]; exact e
    · refine hR s'' (Moved.trans W.gtrans ((hm.mono up).then_heap (Nat.le_succ _) fun b o hb e => ?_) hm'') hS''
      rw [hsb.2 b (fun h : b = S => hb (by rw [h]; exact List.mem_cons_self))]; exact e
set_option maxRecDepth 100000 in
set_option maxHeartbeats 3200000 in
theorem make_go {l : Addr} {items : Array Value} (ns : List Int) {Q : Value → Shared → Prop} (hh : A.handled = none) (hl : s.heap.IsList l items) (hit : IntsAre items.toList ns) (hb : ns.length ≤ 900000) (hr : ∀ k ∈ ns, 0 ≤ k ∧ k < 1000000)
    (h : ∀ (h' : Heap) (tk : Nat), SetG w h' s.heap.objs.size ns → (∀ b o, s.heap.get? b = some o → h'.get? b = some o) → Q (.ref s.heap.objs.size) { s with heap := h', toks := tk }) : wpAny (model P w) A (call (.type "set") [.ref l]) Q E s := by
  have hisz : items.size = ns.length := by
    have q := IntsAre.length hit
    rwa [Array.length_toList] at q
  obtain ⟨c, tl, hmro⟩ := F.called_set.mro
  have hmade := F.called_set.made
  have hsub := F.called_set.sub
  refine wpAny_call (codeAny_of_tree ?_)
  show wpAny _ _ (callAny (.type "set") _) _ _ _
  refine wpAny_pure ⟨Code.quiet_builtin _ (by decide +kernel), codeAny_builtin F.entry_type_call ?_⟩
  rw [Around.under_plain (weight_type_call_type "set" [.ref l] []) rfl]
  have h1 := F.called_set.notType
  have h2 := F.called_set.canCreate
  have hct := F.typeCall_set_1 (.ref l)
  repeat (any_goals (first | assumption | wp_step))
  refine codeAny_mono (code_set_led1 (.ref l) (E := E) (Q₁ := fun obj s₁ => obj = .ref s.heap.objs.size ∧ s₁ = { s with heap := s.heap.push (bare w) }) ⟨rfl, rfl⟩) fun r s₁ hr1 => ?_
  cases r with
  | error e => exact hr1
  | ok fl =>
    cases fl with
    | ret obj =>
      obtain ⟨rfl, rfl⟩ := hr1
      have hS : (s.heap.push (bare w)).get? s.heap.objs.size = some (bare w) := Heap.get?_push_size _ rfl
      have hT : Shared.TypeIs { s with heap := s.heap.push (bare w) } (.ref s.heap.objs.size) "set" := ⟨_, hS, rfl⟩
      have hli := F.called_set.init.lookup
      have hbi := F.called_set.init.bind (.ref s.heap.objs.size)
      repeat (any_goals (first | assumption | wp_step))
      refine codeAny_mono (codeAny_call_builtin (R := wants (fun r s₂ => r = .none ∧ ∃ h' tk, s₂ = { s with heap := h', toks := tk } ∧ SetG w h' s.heap.objs.size ns ∧ (∀ b o, s.heap.get? b = some o → h'.get? b = some o)) E) F.called_set.init.plain F.entry_set_init (check_set_init_1 hT ?_)) fun r₂ s₂ hr₂ => ?_
      · obtain ⟨ol, hol, hcl, nl, hdl⟩ := hl
        obtain ⟨ocls, odict, odata, oslots⟩ := ol
        simp only at hcl hdl
        subst hcl; subst hdl
        have hol' : (s.heap.push (bare w)).get? l = some { cls := .type "list", dict := odict, data := .seq items nl, slots := oslots } := Heap.get?_push_of_some _ hol
        have hsls := F.sub_list_set
        have hslf := F.sub_list_frozenset
        have hne : (Value.type "list" == Value.type "dict") = false := by decide
        have hl1 : (s.heap.push (bare w)).IsList l items := ⟨_, hol', rfl, nl, rfl⟩
        unfold Builtin.«set.__init__» noKeywords Builtin.Frozenset.updateFrom
        generalize hPI : pyIter = PI
        wp_walk
        subst hPI
        refine wpAny_pyIter_list hl1 (wpAny_bind (wpAny_runValue ?_))
        have hlS : l < s.heap.objs.size := Heap.lt_size hol
        have hh3 : A.in1.in1.in1.handled = none := by simp [hh]
        have hz1 : (s.heap.push (bare w)).objs.size = s.heap.objs.size + 1 := Heap.size_push ..
        have hneI : l ≠ (s.heap.push (bare w)).objs.size := Nat.ne_of_lt (by rw [hz1]; exact Nat.lt_succ_of_lt hlS)
        have hSf : s.heap.objs.size ∉ [(s.heap.push (bare w)).objs.size, l] := by
          rw [hz1]
          simp only [List.mem_cons, List.not_mem_nil, or_false, not_or]
          exact ⟨Nat.ne_of_lt (Nat.lt_succ_self _), Nat.ne_of_gt hlS⟩
        have hval : ∀ (i : Nat) (v : Value), items[i]? = some v → ∃ k t, ns[i]? = some k ∧ v = .int k t := fun i v hv => by
          have hi : i < ns.length := by rw [← hisz]; exact (Array.getElem?_eq_some_iff.mp hv).1
          obtain ⟨t, e⟩ := PyProof.Rows.IntsAre.int_at hit i v (by rw [Array.getElem?_toList]; exact hv)
          refine ⟨ns[i], t, List.getElem?_eq_getElem hi, ?_⟩
          rw [e, List.getD_eq_getElem?_getD, List.getElem?_eq_getElem hi] <;> rfl
        refine fill_go ((Walks.list hh3 _ l hneI items).toS) s.heap.objs.size hSf ns hisz hb hr hval (items.size - 0) 0 _ (by omega) (Nat.zero_le _) ⟨⟨_, Heap.get?_push_size _ rfl, rfl, rfl⟩, (hl1.push _)⟩ (bare_ok (Heap.get?_push_of_some _ hS)) fun s' hm hS' => ?_
        obtain ⟨h', g2, d', tk', os'⟩ := s'
        have eg : g2 = s.gens := hm.gens
        have ed : d' = s.drawn := hm.drawn
        have eo : os' = s.os := hm.os
        subst eg ed eo
        show wpAny _ _ _ _ _ _
        refine wpAny_pure ?_
        show wpAny _ _ (ret Value.none) _ _ _
        refine wpAny_pure ⟨rfl, h', tk', rfl, hS', fun b o e => ?_⟩
        have hb0 : b < s.heap.objs.size := Heap.lt_size e
        refine hm.heap b o ?_ (Heap.get?_push_of_some _ (Heap.get?_push_of_some _ e))
        rw [hz1]
        simp only [List.mem_cons, List.not_mem_nil, or_false, not_or]
        exact ⟨Nat.ne_of_lt hb0, Nat.ne_of_lt (Nat.lt_succ_of_lt hb0)⟩
      · cases r₂ with
        | error e => exact hr₂
        | ok fl₂ =>
          cases fl₂ with
          | ret r =>
            obtain ⟨rfl, h', tk, rfl, hS', hk'⟩ := hr₂
            repeat (any_goals (first | assumption | wp_step))
            exact h _ _ hS' hk'
          | _ => exact hr₂.elim
    | _ => exact hr1.elim
/-- the members, walked in some order -/
theorem iter_go {o : Obj} {ns : List Int} {es : Array (Int × Value)} {ep : Nat} {t : SetTable} {Q : Value → Shared → Prop} (ho : s.heap.get? a = some o) (S : SetGo w o ns es ep t) (hQ : ∀ s₂ I, SetIt P w s a es s₂ I → Q (.ref I) s₂) :
    wpAny (model P w) A (pyIter (.ref a)) Q E s := by
  have hc : o.cls = .type "set" := S.ex.1
  have hd := S.data
  have hf := S.tab.fits
  have ha : SetAt s.heap a es ep t := ⟨o, ho, hc, hd⟩
  have hT : s.TypeIs (.ref a) "set" := ⟨o, ho, hc⟩
  have hne : a ≠ s.heap.objs.size := Nat.ne_of_lt (Heap.lt_size ho)
  have hdr : (!t.plain && decide (es.size > 1)) = false := by rw [S.plain]; rfl
  have two : ∀ b : Addr, b ∈ [s.heap.objs.size, a] → b = a ∨ s.heap.objs.size ≤ b := fun b hb => by
    rcases List.mem_cons.mp hb with z | z
    · exact .inr (Nat.le_of_eq z.symm)
    · exact .inl (List.mem_singleton.mp z)
  refine wpAny_pyIter_slot hT F.slot_set_iter (wpAny_call_entry F.slot_set_iter hT entry_s_iter ?_ (F.args_set_iter_1 _))
  unfold Builtin.«frozenset.__iter__»
  refine wpAny_bind (m := Builtin.Frozenset.slot0 "__iter__" _) (wpAny_of_eq (a := a) (by rfl) (wpAny_bind (m := Builtin.Frozenset.sizeOf a) ?_))
  unfold Builtin.Frozenset.sizeOf
  refine wpAny_bind (wpAny_setEntries_of ho hd hf (wpAny_pure ?_))
  first | refine wpAny_bind (setDrawn_at ha hf ?_) | refine wpAny_bind (wpAny_bind (setDrawn_at ha hf ?_))
  rw [hdr, Bool.and_false]
  refine wp_if_neg (by simp) ?_
  first | refine wpAny_bind (wpAny_pure ?_) | refine wpAny_pure ?_
  refine wpAny_bind (wpAny_setEpoch_of ho hd hf (wpAny_bind (wpAny_newObj_type (wpAny_pure ⟨_, rfl, "set_iterator", _, ⟨_, Heap.get?_push_size _ rfl, rfl⟩, slot_si_next.lookup, ?_⟩))))
  cases hb : w.params.followText "set-order" with
  | true =>
    have hlen : ((pickOrder (w.params.setOrder a ep) es).toList.map (·.2)).length = (pickOrder (w.params.setOrder a ep) es).size := by rw [List.length_map, Array.length_toList]
    exact hQ _ _ (SetIt.of (fun A' hA' => walks_text (P := P) (ep := ep) hA' hne hf hb) hlen (fun b u e => Heap.get?_push_of_some _ e) rfl rfl rfl (Nat.le_refl _) two ((pick_perm (w.params.setOrder a ep) es).map _)
      (fun j v q => by rw [List.getElem?_map, Array.getElem?_toList]; exact q) ⟨⟨_, Heap.get?_push_size _ rfl, rfl, rfl⟩, ha.at fun u e => Heap.get?_push_of_some _ e⟩)
  | false =>
    have hled : t.led = true := S.led.resolve_left (by rw [hb]; exact Bool.false_ne_true)
    have hlen : (es.toList.map (·.2)).length = es.size := by rw [List.length_map, Array.length_toList]
    exact hQ _ _ (SetIt.of (fun A' hA' => walks_led (P := P) (ep := ep) hA' hne hf S.tab.ris hb hdr hled) hlen (fun b u e => Heap.get?_push_of_some _ e) rfl rfl rfl (Nat.le_refl _) two (List.Perm.refl _)
      (fun j v q => by rw [List.getElem?_map, Array.getElem?_toList]; exact q) ⟨⟨_, Heap.get?_push_size _ rfl, rfl, rfl⟩, ha.at fun u e => Heap.get?_push_of_some _ e⟩)
/-- .. gathered into a list -/
theorem gather_go {o : Obj} {ns : List Int} {es : Array (Int × Value)} {ep : Nat} {t : SetTable} {Q : List Value → Shared → Prop} (hh : A.handled = none) (ho : s.heap.get? a = some o) (S : SetGo w o ns es ep t) (hlen : ns.length ≤ 900000)
    (hQ : ∀ s' out, (∀ b o, s.heap.get? b = some o → s'.heap.get? b = some o) → s.heap.objs.size ≤ s'.heap.objs.size → s'.gens = s.gens → s'.os = s.os → out.Perm (es.toList.map (·.2)) → Q out s') :
    wpAny (model P w) A (collect (.ref a)) Q E s := by
  have hc : o.cls = .type "set" := S.ex.1
  have hlt : a < s.heap.objs.size := Heap.lt_size ho
  have hSa : s.heap.objs.size ≠ a := Nat.ne_of_gt hlt
  have hsl := S.len
  unfold collect
  refine wpAny_bind (wpAny_runValue (codeAny_builtin F.entry_proto_collect ?_))
  rw [Around.under_plainId F.plain_proto_collect _]
  show wpAny _ A.in1 (newList [] >>= fun l => again (.builtin "list.__iadd__" ⟨[l, .ref a], []⟩)) _ _ s
  refine wpAny_bind (wpAny_newObj_type (wpAny_pure ⟨plainId_quiet F.plain_list_iadd _, codeAny_builtin F.entry_list_iadd ?_⟩))
  rw [Around.under_plainId F.plain_list_iadd _]
  have hS : (s.heap.push { cls := .type "list", data := .seq ([] : List Value).toArray }).get? s.heap.objs.size = some { cls := .type "list", data := .seq ([] : List Value).toArray } := Heap.get?_push_size _ rfl
  have hz1 : (s.heap.push { cls := .type "list", data := .seq ([] : List Value).toArray }).objs.size = s.heap.objs.size + 1 := size_push' _ _
  show wpAny _ A.in1 (Builtin.List.listExtendWith (.ref s.heap.objs.size) (.ref a) (.ref s.heap.objs.size)) _ _ _
  unfold Builtin.List.listExtendWith
  refine wpAny_bind (wpAny_typeOf (T := "set") ⟨o, Heap.get?_push_of_some _ ho, hc⟩ ?_)
  have h1 : Builtin.List.listSameRef (.ref s.heap.objs.size) (.ref a) = false := by simp [Builtin.List.listSameRef, hSa]
  have h2 : (Value.type "set" == Value.type "list") = false := by decide
  have h3 : (Value.type "set" == Value.type "tuple") = false := by decide
  simp only [h1, h2, h3, Bool.or_false, Bool.false_eq_true, if_false]
  refine wpAny_bind (iter_go (s := { s with heap := s.heap.push { cls := .type "list", data := .seq ([] : List Value).toArray } }) (Heap.get?_push_of_some _ ho) S fun s₂ I hit => ?_)
  obtain ⟨fp, St, out, Pv, k2, g2, o2, t2, hI, hfp, hp, hW, hPv, hst⟩ := hit
  have hI' : s.heap.objs.size + 1 ≤ I := hz1 ▸ hI
  have hSf : s.heap.objs.size ∉ fp := fun hm => by
    rcases hfp _ hm with z | z
    · exact hSa z
    · exact absurd (show s.heap.objs.size + 1 ≤ s.heap.objs.size from hz1 ▸ z) (Nat.not_succ_le_self _)
  have ho2 := k2 a o (Heap.get?_push_of_some _ ho)
  have hT2 : s₂.TypeIs (.ref a) "set" := ⟨o, ho2, hc⟩
  refine wpAny_bind (wpAny_holding ?_)
  unfold Builtin.List.listLengthHint
  refine wpAny_bind (wpAny_specialOf hT2 F.slot_set_len.lookup ?_)
  (generalize hid : ("set.__len__" : String) = id0; (fail_if_success (clear hid id0)); wp_delta; rw [show splitId id0 = some ("set", "__len__") from by subst hid; decide +kernel]; subst hid)
  refine wpAny_bind (wpAny_isInstance (b := true) hT2 sub_set_self ?_)
  show wpAny _ A.in1 (typeOf (.ref a) >>= _) _ _ _
  refine wpAny_bind (wpAny_typeOf hT2 (wpAny_pure ?_))
  show wpAny _ A.in1 (rule "list.extend.makes-room" >>= fun _ => Builtin.List.listTouch (.ref s.heap.objs.size) >>= fun _ => again (.builtin "list.extend.loop" ⟨[.ref s.heap.objs.size, .ref I, .ref s.heap.objs.size], []⟩)) _ _ _
  refine wpAny_bind (wpAny_rule ?_)
  have hS2 := k2 _ _ hS
  refine wpAny_bind ?_
  show wpAny _ A.in1 (updateSeq s.heap.objs.size (·.push .none) >>= fun _ => updateSeq s.heap.objs.size (·.pop)) _ _ _
  have hS3 := Heap.get?_update_self (Obj.mapSeq (·.push Value.none)) hS2 rfl
  refine wpAny_bind (wpAny_updateSeq hS2 rfl (wpAny_updateSeq hS3 rfl ?_))
  have hS4 := Heap.get?_update_self (Obj.mapSeq (·.pop)) hS3 rfl
  have oth : ∀ b u, b ≠ s.heap.objs.size → s₂.heap.get? b = some u → ((s₂.heap.update s.heap.objs.size (Obj.mapSeq (·.push Value.none))).update s.heap.objs.size (Obj.mapSeq (·.pop))).get? b = some u :=
    fun b u hb e => (Heap.get?_update_other _ _ (Ne.symm hb)).trans ((Heap.get?_update_other _ _ (Ne.symm hb)).trans e)
  have hn : out.length ≤ sizeLine := by
    rw [hp.length_eq, List.length_map, Array.length_toList]
    exact size_ok (by omega)
  have W := hW A.in1 hh
  have hst2 : St 0 ((s₂.heap.update s.heap.objs.size (Obj.mapSeq (·.push Value.none))).update s.heap.objs.size (Obj.mapSeq (·.pop))) := W.frame 0 _ _ hst fun b hb u e => oth b u (fun z => hSf (z ▸ hb)) e
  refine wpAny_pure ⟨plainId_quiet F.plain_extend_loop _, codeAny_extend_loopS W.toS hn _ hSf _ out.length 0 _ _ _ rfl (Nat.zero_le _) hst2 hS4 (ItemsOf.nil Pv) fun s' acc' c' hm hS' hacc => ?_⟩
  show wpAny _ A (load s.heap.objs.size >>= _) _ _ s'
  refine wpAny_bind (wpAny_load hS' (wpAny_pure ?_))
  show Q acc'.toList s'
  rw [items_out hacc hPv]
  refine hQ s' out (fun b u e => ?_) (Nat.le_of_lt (Heap.lt_size hS')) (Eq.trans hm.gens g2) (Eq.trans hm.os o2) hp
  have hbl : b < s.heap.objs.size := Heap.lt_size e
  refine hm.heap b u (fun z => ?_) (oth b u (Nat.ne_of_lt hbl) (k2 b u (Heap.get?_push_of_some _ e)))
  rcases List.mem_cons.mp z with z | z
  · first
      | exact absurd hbl (by rw [z]; exact Nat.lt_irrefl _)
      | exact absurd hbl (by rw [z]; exact Nat.not_lt_of_le (Nat.le_of_succ_le hI'))
  · have z := List.mem_singleton.mp z
    first
      | exact absurd hbl (by rw [z]; exact Nat.lt_irrefl _)
      | exact absurd hbl (by rw [z]; exact Nat.not_lt_of_le (Nat.le_of_succ_le hI'))
/-- sorted(s) -/
theorem order_go {ns : List Int} {Q : Value → Shared → Prop} (R : SetG w s.heap a ns) (hh : A.handled = none) (hlen : ns.length ≤ 900000)
    (hQ : ∀ s' p (out : Array Value) (c : Nat), (∀ b o, s.heap.get? b = some o → s'.heap.get? b = some o) → s'.gens = s.gens → s'.os = s.os → s.heap.objs.size ≤ p → s'.heap.get? p = some (seqObj "list" out c) → IntsAre out.toList (sortUp ns) → Q (.ref p) s') :
    wpAny (model P w) A (call (.builtin "sorted") [.ref a]) Q E s := by
  obtain ⟨o, es, ep, t, ho, S, hfull⟩ := R
  have hsl := S.len
  refine Calls.call_function_entry kind_sorted plain_sorted entry_sorted (args_sorted1 _) ?_
  unfold Builtin.«sorted»
  refine wpAny_bind (m := checkCount "sorted" 1 1 _) (wpAny_pure (wpAny_bind (gather_go (A := A.in1) hh ho S hlen fun s1 vs k1 hz g1 o1 pm => ?_)))
  have hvl : vs.length = es.size := by rw [pm.length_eq, List.length_map, Array.length_toList]
  have hI : IntsAre vs (vs.map SrtO.iv) := SrtO.ints_iv fun v hv => by
    obtain ⟨e, he, q⟩ := List.mem_map.mp (pm.mem_iff.mp hv)
    obtain ⟨k, tk, h1, _⟩ := S.good e he
    exact ⟨k, tk, by rw [← q]; exact h1⟩
  have pk : (vs.map SrtO.iv).Perm (es.toList.map keyOf) := by
    have q := pm.map SrtO.iv
    rw [List.map_map] at q
    have e : es.toList.map (SrtO.iv ∘ fun x => x.2) = es.toList.map keyOf := List.map_congr_left fun e he => by
      obtain ⟨k, tk, h1, _⟩ := S.good e he
      show SrtO.iv e.2 = keyOf e
      unfold keyOf
      rw [h1]
      rfl
    rw [e] at q
    exact q
  refine wpAny_bind (wpAny_newList ?_ (by rw [hvl]; exact size_ok (by omega)))
  have hoL : (s1.heap.push (seqObj "list" vs.toArray 0)).get? s1.heap.objs.size = some (seqObj "list" vs.toArray 0) := Heap.get?_push_size _ rfl
  refine wpAny_bind (wpAny_holding (wpAny_call_entry slot_list_sort ⟨_, hoL, rfl⟩ entry_list_sort (SrtO.list_sort_ord SrtO.swo_int hoL (by rw [hvl]; exact size_ok (by omega)) (fun h2 => SrtO.ints_sortable hI h2) fun out h1 h2 => ⟨_, rfl, ?_⟩) (args_list_sort _)))
  obtain ⟨q1, q2, q3⟩ := SrtO.ints_out hI h1 h2
  obtain ⟨c, hc⟩ := sortedHeap_at (vs := vs) (out := out.toArray) hoL
  have pn := q2.trans pk
  have hasc : Asc (out.map SrtO.iv) := lt_of_le_nodup _ q3 (pn.nodup_iff.mpr S.nd)
  have hsort : out.map SrtO.iv = sortUp ns := asc_ext hasc (sort_asc ns) fun k => by rw [pn.mem_iff, sort_mem, S.mem k]
  rw [hsort] at q1
  refine wpAny_pure ⟨_, rfl, hQ _ s1.heap.objs.size out.toArray c (fun b u e => ?_) g1 o1 hz hc q1⟩
  have q := k1 b u e
  have hlt := Heap.lt_size q
  show (sortedHeap (s1.heap.push (seqObj "list" vs.toArray 0)) s1.heap.objs.size vs out.toArray).get? b = some u
  rw [sortedHeap_old (Nat.ne_of_lt hlt) (by rw [size_push']; exact Nat.lt_succ_of_lt hlt)]
  exact Heap.get?_push_of_some _ q
end
/-- the set of ints at a -/
def SetV (w : World) (a : Addr) (ns : List Int) : HO := .ext fun h => SetG w h a ns
def rSetInts (K : PySem.W.Frag) (w : World) : List V → Hp → VK → Prop := fun xs H Q => ∃ l ns, xs = [.ref l] ∧ SqL K H l (ns.map V.int) ∧ (∀ n ∈ ns, 0 ≤ n ∧ n < 1000000) ∧ ns.length ≤ 100000 ∧ ∀ p H2, H p = none → Ex H H2 → H2 p = some (SetV w p ns) → Q (.ref p) H2
def rSortS (w : World) : List V → Hp → VK → Prop := fun xs H Q => ∃ p ns, xs = [.ref p] ∧ H p = some (SetV w p ns) ∧ ns.length ≤ 100000 ∧ nL H ((sortUp ns).map V.int) Q
theorem setV_ok {w : World} {P : Program} {H : Hp} {h : Heap} {a : Addr} {ns : List Int} (R : SetG w h a ns) : ObjOk P w H h a (SetV w a ns) := by
  have ⟨o, _, _, _, ho, _⟩ := R
  exact ⟨R, ⟨o, ho⟩, fun h1 h2 p k => SetG.at p k⟩
theorem setK {X : Cx} {K : PySem.W.Frag} {w : World} (h : X.K = K) (hw : X.w = w) (hc : X.calm = true) : CallR X (.type "set") (rSetInts K w) := by
  subst h hw
  intro pins s σ H xs us Q I r ⟨l, ns, ex, hs, hr, hl, q⟩
  subst ex
  obtain ⟨its, rv, pl, hz⟩ := I.list hs
  rw [Vals.ref1 r]
  refine make_go ns (I.ok.hd hc) pl.isList rv.ints (by omega) hr fun h' tk hS k => ?_
  exact ⟨.ref _, upd H s.heap.objs.size (SetV X.w s.heap.objs.size ns), I.laid (t' := tk) k (Nat.le_refl _) (setV_ok hS), rfl, q _ _ (I.hok.fresh (Nat.le_refl _)) (Ex.new (I.hok.fresh (Nat.le_refl _))) upd_same⟩
theorem sortSetK {X : Cx} {w : World} (hw : X.w = w) (hc : X.calm = true) : CallR X (.builtin "sorted") (rSortS w) := by
  subst hw
  intro pins s σ H xs us Q I r ⟨p, ns, ex, hp, hl, q⟩
  subst ex
  have R : SetG X.w s.heap p ns := (I.hok p _ hp).1
  rw [Vals.ref1 r]
  refine order_go R (I.ok.hd hc) (by omega) fun s' b out c k g o hb hg hi => ?_
  have hlen : ((sortUp ns).map V.int).length ≤ sizeLine := by
    obtain ⟨o', es, ep, t, ho, S, _⟩ := R
    have e := IntsAre.length hi
    rw [List.length_map]
    have := List.Nodup.length_le_of_subset (l₂ := ns) ((sort_asc ns).imp fun {a b} h => by omega) fun x hx => sort_mem.mp hx
    exact size_ok (by omega)
  have hn : H b = none := I.hok.fresh hb
  have J : Inv X pins σ (upd H b (.lst ((sortUp ns).map V.int))) { s with heap := s'.heap, gens := s'.gens, drawn := s'.drawn, toks := s'.toks } :=
    I.call (ch := []) (Un.laid k hb hn) (I.hok.laid k hb ⟨hlen, out.toList, c, vals_of_ints hi, hg⟩) (by rw [g]; exact I.bare) (fun _ z => nomatch z)
  have e : s' = { s with heap := s'.heap, gens := s'.gens, drawn := s'.drawn, toks := s'.toks } := by
    cases s'
    cases s
    cases o
    rfl
  rw [e]
  exact ⟨.ref b, _, J, rfl, q _ _ hn (Ex.new hn) upd_same⟩
end TD

/-! dicts of ints, made of pairs; comprehensions whose turns make something. -/
namespace TD
open PySem PySem.Spec PyProof.Rows L2
/-- a dict made of pairs (an int, True) -/
def keysD (ns : List Int) : List (L2.Key × V) := mergeK [] (ns.map fun n => ((Sum.inl n : L2.Key), V.bl true))
theorem merge_has (n : Int) : ∀ (ms : List Int) (kvs : List (L2.Key × V)), (valV (mergeK kvs (ms.map fun n => ((Sum.inl n : L2.Key), V.bl true))) (Sum.inl n)).isSome = ((valV kvs (Sum.inl n)).isSome || decide (n ∈ ms))
  | [], kvs => by simp [mergeK]
  | m :: r, kvs => by
    have ih := merge_has n r (putK kvs (Sum.inl m) (V.bl true))
    show (valV (mergeK (putK kvs (Sum.inl m) (V.bl true)) (r.map fun n => ((Sum.inl n : L2.Key), V.bl true))) (Sum.inl n)).isSome = _
    rw [ih, valV_put]
    by_cases h : n = m
    · subst h
      simp
    · have h2 : ¬ (Sum.inl n : L2.Key) = Sum.inl m := fun z => h (Sum.inl.inj z)
      rw [if_neg h2]
      simp [h]
theorem keysD_has {ns : List Int} {n : Int} : (valV (keysD ns) (Sum.inl n)).isSome = decide (n ∈ ns) := by
  unfold keysD
  rw [merge_has]
  rfl
def rDictP (K : PySem.W.Frag) : List V → Hp → VK → Prop := fun xs H Q => ∃ (a : Addr) (ps : List Addr) (ns : List Int), xs = [.ref a] ∧ SqL K H a (ps.map V.ref) ∧ ps.length = ns.length ∧ (∀ (i : Nat) (p : Addr) (n : Int), ps[i]? = some p → ns[i]? = some n → SqT K H p [.int n, .bl true]) ∧
  ∀ p H2, H p = none → Ex H H2 → H2 p = some (.dK (keysD ns)) → Q (.ref p) H2
theorem paired_of {α β : Type} {F : α → β → Prop} : ∀ {l : List α} {r : List β}, l.length = r.length → (∀ (i : Nat) x y, l[i]? = some x → r[i]? = some y → F x y) → Paired F l r
  | [], [], _, _ => .nil
  | x :: l, y :: r, hl, h => .cons (h 0 x y rfl rfl) (paired_of (by simpa using hl) fun i a b h1 h2 => h (i + 1) a b h1 h2)
theorem dictPK {X : Cx} {K : PySem.W.Frag} (h : X.K = K) (hcalm : X.calm = true) : CallR X (.type "dict") (rDictP K) := by
  subst h
  intro pins s σ H xs us Q I r ⟨a, ps, ns, ex, hs, hl, hp, q⟩
  refine call_dictP hcalm pins s σ H xs us Q I r ⟨a, ps, ns.map fun n => ((Sum.inl n : L2.Key), V.bl true), ex, hs, paired_of (by rw [List.length_map]; exact hl) (fun i p kv h1 h2 => ?_), fun p np => q p _ np (Ex.new np) upd_same⟩
  rw [List.getElem?_map] at h2
  obtain ⟨n, hn, rfl⟩ := Option.map_eq_some_iff.mp h2
  exact hp i p n h1 hn
/-- tuples and more stay: what a comprehension's items may be told by -/
def Ext (D : Addr) (H H' : Hp) : Prop := ∀ a o, a ≠ D → H a = some o → H' a = some o
theorem Ex.ext {D : Addr} {H H' : Hp} (e : Ex H H') : Ext D H H' := fun a o _ h => e a o h
/-- a comprehension whose turns each give what is told by the item's number -/
theorem lc_each {J : It} {H1 : Hp} {n : Nat} {Y : Nat → V → Hp → Prop} {σ : L2.St} {vs : List Nat} {g : TG} {te : TE} {Q : Addr → Hp → Prop} (p : Nat → V → Hp → Prop) (hp : ∀ i y H H' D xs, H D = some (.lst xs) → H1 D = none → Ext D H H' → p i y H → (∀ xs', H' D = some (.lst xs') → p i y H')) (hw : Goes J H1 n Y) (hn : n ≤ 1000000)
    (turn : ∀ i x H', i < n → Ex H1 H' → Y i x H' → ∀ R : V → Hp → Prop, (∀ y H4, p i y H4 → Ex H' H4 → R y H4) → g x (wipe σ vs) H' fun σ2 H2 => wipe σ2 vs = wipe σ vs ∧ te σ2 H2 R)
    (q : ∀ a H2 xs, H1 a = none → Ex H1 H2 → xs.length = n → (∀ (i : Nat) (y : V), xs[i]? = some y → p i y H2) → H2 a = some (.lst xs) → Q a H2) : ∀ D, H1 D = none → ∃ W : Nat → Nat → Hp → Prop, (∃ m, W 0 m (upd H1 D (.lst []))) ∧ ∀ i m H, W i m H →
      (J.stop i H ∧ Q D H) ∨ (J.go i H ∧ ∃ Nx : Hp → Prop, (∀ H', Nx H' → ∃ m', m' < m ∧ W (i + 1) m' H') ∧ ∀ x H', J.yld i H x H' → g x (wipe σ vs) H' fun σ2 H2 => wipe σ2 vs = wipe σ vs ∧ tYes σ2 H2 fun b H3 =>
        if b = true then te σ2 H3 fun y H4 => ∃ acc, H4 D = some (.lst acc) ∧ acc.length < sizeLine ∧ Nx (upd H4 D (.lst (acc ++ [y]))) else Nx H3) := by
  intro D nD
  have stay : ∀ (acc : List V) (H H' : Hp) (a2 : List V), H D = some (.lst acc) → Ext D H H' → H' D = some (.lst a2) → (∀ i y, acc[i]? = some y → p i y H) → ∀ i y, acc[i]? = some y → p i y H' := fun acc H H' a2 h1 h2 h3 h4 i y hy => hp i y H H' D acc h1 nD h2 (h4 i y hy) a2 h3
  refine ⟨fun i m H => m = n - i ∧ i ≤ n ∧ Ex H1 H ∧ ∃ acc : List V, H D = some (.lst acc) ∧ acc.length = i ∧ ∀ j y, acc[j]? = some y → p j y H, ⟨n, by omega, Nat.zero_le _, Ex.new nD, [], upd_same, rfl, fun j y hy => (nomatch hy)⟩, ?_⟩
  rintro i m H ⟨rfl, hi, e, acc, hD, hl, hpa⟩
  by_cases h : i < n
  · refine .inr ⟨hw.go i H h e, fun H' => Ex H1 H' ∧ ∃ acc : List V, H' D = some (.lst acc) ∧ acc.length = i + 1 ∧ ∀ j y, acc[j]? = some y → p j y H', fun H' ⟨e', a', h', l', p'⟩ => ⟨n - (i + 1), by omega, rfl, h, e', a', h', l', p'⟩, fun x H' hy => ?_⟩
    obtain ⟨e1, y1⟩ := hw.yld i H x H' h e hy
    refine turn i x H' h (e.trans e1) y1 (fun y H4 => ∃ acc, H4 D = some (.lst acc) ∧ acc.length < sizeLine ∧ Ex H1 (upd H4 D (.lst (acc ++ [y]))) ∧ ∃ acc' : List V, (upd H4 D (.lst (acc ++ [y]))) D = some (.lst acc') ∧ acc'.length = i + 1 ∧ ∀ j z, acc'[j]? = some z → p j z (upd H4 D (.lst (acc ++ [y])))) fun y H4 hy e4 => ?_
    have e5 : Ex H1 H4 := (e.trans e1).trans e4
    have hD4 := (e1.trans e4) D _ hD
    have hx : Ext D H4 (upd H4 D (.lst (acc ++ [y]))) := fun a o ha ho => by rw [upd_ne ha]; exact ho
    have h4 := stay acc H H4 acc hD (e1.trans e4).ext hD4 hpa
    refine ⟨acc, hD4, Nat.lt_of_le_of_lt (Nat.le_of_eq hl) (Nat.lt_of_lt_of_le h (Nat.le_trans hn (by decide))), Ex.mut e5 nD, acc ++ [y], upd_same, by rw [List.length_append, hl]; rfl, fun j z hz => ?_⟩
    rw [List.getElem?_append] at hz
    by_cases hj : j < acc.length
    · rw [if_pos hj] at hz
      exact hp j z H4 _ D acc hD4 nD hx (h4 j z hz) _ upd_same
    · rw [if_neg hj] at hz
      have : j - acc.length = 0 := by
        rcases Nat.eq_zero_or_pos (j - acc.length) with w | w
        · exact w
        · rw [List.getElem?_eq_none (by simp; omega)] at hz; cases hz
      rw [this] at hz
      cases hz
      have hji : j = i := by omega
      subst hji
      exact hp j y H4 _ D acc hD4 nD hx hy _ upd_same
  · have hin : i = n := by omega
    subst hin
    exact .inl ⟨hw.stop H e, q D H acc nD e hl hpa hD⟩
/-- tuples told by their place -/
theorem tup_stays {n : Nat → List V} : ∀ (i : Nat) (y : V) (H H' : Hp) (D : Addr) (xs : List V), H D = some (.lst xs) → Ext D H H' → (∃ p, y = .ref p ∧ H p = some (.tup (n i))) → ∃ p, y = .ref p ∧ H' p = some (.tup (n i)) := fun i y H H' D xs hD e ⟨p, ey, hp⟩ =>
  ⟨p, ey, e p _ (fun z => by rw [z, hD] at hp; cases hp) hp⟩
theorem refs_of {H : Hp} {n : Nat → List V} {xs : List V} (h : ∀ (i : Nat) (y : V), xs[i]? = some y → ∃ p, y = .ref p ∧ H p = some (.tup (n i))) : ∃ ps : List Addr, xs = ps.map V.ref ∧ ∀ (i : Nat) (p : Addr), ps[i]? = some p → H p = some (.tup (n i)) := by
  induction xs generalizing n with
  | nil => exact ⟨[], rfl, fun i p hp => (nomatch hp)⟩
  | cons x r ih =>
    obtain ⟨p, rfl, hp⟩ := h 0 x rfl
    obtain ⟨ps, rfl, hps⟩ := ih (n := fun i => n (i + 1)) fun i y hy => h (i + 1) y hy
    refine ⟨p :: ps, rfl, fun i q hq => ?_⟩
    cases i with
    | zero => cases hq; exact hp
    | succ i => exact hps i q hq
end TD

/-! Gates around the source: their rate. -/
namespace TD
theorem even_facts : ∀ q, q ≤ 12 → ∀ p, p ≤ 12 → 1 ≤ p → p ≤ q → (evenBits p q).count true = p ∧ (evenBits p q).getD 0 false = true := by decide +kernel
theorem even_length (p q : Nat) : (evenBits p q).length = q := by simp [evenBits]
/-! ### how many ticks of a round stay -/
theorem count_filter (bits : List Bool) : ((List.range bits.length).filter fun j => bits.getD j false).length = bits.count true := by
  induction bits with
  | nil => rfl
  | cons b r ih =>
    rw [List.length_cons, List.range_succ_eq_map, List.filter_cons, List.filter_map, List.count_cons]
    have e : ((fun j => (b :: r).getD j false) ∘ Nat.succ) = fun j => r.getD j false := rfl
    rw [e]
    cases b
    · show (if false = true then _ else _ : List Nat).length = _
      rw [if_neg Bool.false_ne_true, List.length_map, ih]
      rfl
    · show (if true = true then _ else _ : List Nat).length = _
      rw [if_pos rfl, List.length_cons, List.length_map, ih]
      rfl
theorem bit_wrap {bits : List Bool} {k j : Nat} (h : j < bits.length) : bitAt bits ((k * bits.length + j : Nat) : Int) = bits.getD j false := by
  unfold bitAt
  have : ((k * bits.length + j : Nat) : Int) % (bits.length : Int) = (j : Int) := by
    rw [← Int.natCast_emod, Nat.mul_add_mod_of_lt' h]
  rw [this, Int.toNat_natCast]
where
  Nat.mul_add_mod_of_lt' {k n j : Nat} (h : j < n) : (k * n + j) % n = j := by
    rw [Nat.add_comm, Nat.add_mul_mod_self_right, Nat.mod_eq_of_lt h]
theorem nums_count (bits : List Bool) : ∀ k, (nums bits 0 (k * bits.length)).length = k * bits.count true
  | 0 => by simp [nums]
  | k + 1 => by
    have ih := nums_count bits k
    unfold nums at ih ⊢
    rw [Nat.succ_mul, List.range_add, List.filter_append, List.length_append, ih, List.filter_map, List.length_map, Nat.succ_mul]
    congr 1
    rw [← count_filter bits]
    congr 1
    refine List.filter_congr fun j hj => ?_
    have hj := List.mem_range.mp hj
    show bitAt bits ((0 + (k * bits.length + j) : Nat) : Int) = _
    rw [Nat.zero_add, bit_wrap hj]
/-! ### rates -/
theorem same_rate {n l t b : Nat} (hn : 0 < n) (hl : 0 < l) (ht : 0 < t) (hb : 0 < b) (h : n * b = l * t) : n / Nat.gcd n l = t / Nat.gcd t b ∧ l / Nat.gcd n l = b / Nat.gcd t b := by
  have g1 : 0 < Nat.gcd n l := Nat.gcd_pos_of_pos_left _ hn
  have g2 : 0 < Nat.gcd t b := Nat.gcd_pos_of_pos_left _ ht
  obtain ⟨a, ha⟩ := Nat.gcd_dvd_left n l
  obtain ⟨c, hc⟩ := Nat.gcd_dvd_right n l
  obtain ⟨d, hd⟩ := Nat.gcd_dvd_left t b
  obtain ⟨e, he⟩ := Nat.gcd_dvd_right t b
  have co1 : Nat.Coprime (n / Nat.gcd n l) (l / Nat.gcd n l) := Nat.coprime_div_gcd_div_gcd g1
  have co2 : Nat.Coprime (t / Nat.gcd t b) (b / Nat.gcd t b) := Nat.coprime_div_gcd_div_gcd g2
  generalize hg : Nat.gcd n l = g at *
  generalize hh : Nat.gcd t b = k at *
  have ea : n / g = a := by rw [ha]; exact Nat.mul_div_cancel_left _ g1
  have ec : l / g = c := by rw [hc]; exact Nat.mul_div_cancel_left _ g1
  have ed : t / k = d := by rw [hd]; exact Nat.mul_div_cancel_left _ g2
  have ee : b / k = e := by rw [he]; exact Nat.mul_div_cancel_left _ g2
  rw [ea, ec] at co1
  rw [ed, ee] at co2
  rw [ea, ec, ed, ee]
  have key : a * e = c * d := by
    have : (g * k) * (a * e) = (g * k) * (c * d) := by
      have h1 : n * b = (g * k) * (a * e) := by
        conv => lhs; rw [ha, he]
        simp only [Nat.mul_assoc, Nat.mul_left_comm, Nat.mul_comm]
      have h2 : l * t = (g * k) * (c * d) := by
        conv => lhs; rw [hc, hd]
        simp only [Nat.mul_assoc, Nat.mul_left_comm, Nat.mul_comm]
      rw [← h1, ← h2, h]
    exact Nat.eq_of_mul_eq_mul_left (Nat.mul_pos g1 g2) this
  have d1 : a ∣ d := co1.dvd_of_dvd_mul_left ⟨e, by rw [← key]⟩
  have d2 : d ∣ a := co2.dvd_of_dvd_mul_right ⟨c, by rw [key, Nat.mul_comm]⟩
  have e1 : a = d := Nat.dvd_antisymm d1 d2
  have hdpos : 0 < d := by
    rcases Nat.eq_zero_or_pos d with z | z
    · rw [z, Nat.mul_zero] at hd; omega
    · exact z
  refine ⟨e1, ?_⟩
  rw [e1, Nat.mul_comm c d] at key
  exact (Nat.eq_of_mul_eq_mul_left hdpos key).symm
/-- a form of gates: t ticks in b moments -/
structure Rated (f : Form) (t b : Nat) : Prop where
  wf : WF f
  front : f.front = []
  ne : f.round ≠ []
  head : f.round.headD 0 = 0
  rate : (f.round.length : Int) * (b : Int) = f.len * (t : Int)
  le : f.len ≤ (b : Int)
theorem settled_rate {t : List Int} {len : Int} (ht : t ≠ []) (W : WF ⟨[], t, len⟩) : (settled [] t len).front = [] ∧ (settled [] t len).round.headD 0 = t.headD 0 ∧ ((settled [] t len).round.length : Int) * len = (t.length : Int) * (settled [] t len).len := by
  have hg : gapsRound t len ≠ [] := fun z => by
    have := gaps_len (t := t) (len := len)
    rw [z] at this
    exact ht (List.length_eq_zero_iff.mp this.symm)
  obtain ⟨P, _⟩ := least_part hg
  have hn : 0 < t.length := List.length_pos_iff.mpr ht
  have hmd : least (gapsRound t len) ∣ t.length := gaps_len (t := t) (len := len) ▸ P.dvd
  have hm : least (gapsRound t len) ≤ t.length := Nat.le_of_dvd hn hmd
  have h1 := P.one
  have hr := rt_part ht P
  obtain ⟨R2, hle, hne⟩ := rnd_part ht (W.rnd ht) P
  unfold settled
  rw [if_neg ht]
  dsimp only
  have er : ∀ (l : Int) (t' : List Int), rollBack l ([] : List Int).reverse t' = ([], t') := fun _ _ => rfl
  rw [er]
  dsimp only
  generalize least (gapsRound t len) = m at *
  have hl : (t.take m).length = m := by rw [List.length_take]; omega
  refine ⟨rfl, by rw [headD_eq, headD_eq, getD_take (by omega)], ?_⟩
  rw [hl]
  have e1 := rt_mul (len := len) ht 0 1
  have e2 := rt_mul (len := ((gapsRound t len).take m).sum) hne 0 (t.length / m)
  rw [hl, Nat.zero_add, Nat.div_mul_cancel hmd, hr, hr] at e2
  rw [Nat.zero_add, Nat.one_mul] at e1
  rw [e2] at e1
  have e3 : len = ((t.length / m : Nat) : Int) * ((gapsRound t len).take m).sum := by omega
  generalize ((gapsRound t len).take m).sum = l at *
  obtain ⟨k, hk⟩ := hmd
  rw [hk, Nat.mul_div_cancel_left _ h1] at e3
  rw [e3, hk, Int.natCast_mul, Int.mul_assoc]
theorem gate_rated0 {f : Form} {t b p q : Nat} (R : Rated f t b) (hp : 1 ≤ p) (hpq : p ≤ q) (hq : q ≤ 12) (hw : (rawGate f (evenBits p q)).len ≤ 5040) : ∃ g, gated f (evenBits p q) = some g ∧ checked g = some g ∧ Rated g (t * p) (b * q) := by
  obtain ⟨hc, h0⟩ := even_facts q hq p (by omega) hp hpq
  have hbl := even_length p q
  generalize evenBits p q = bits at hc h0 hbl hw ⊢
  have hn : 0 < f.round.length := List.length_pos_iff.mpr R.ne
  have rnd := R.wf.rnd R.ne
  have hMq := lcmN_right f.round.length bits.length
  have hMn := lcmN_left f.round.length bits.length
  have hM := lcmN_pos hn (show 0 < bits.length by omega)
  have hMle := lcmN_le (n := f.round.length) (q := bits.length)
  have hlenraw : (rawGate f bits).len = f.len * ((lcmN f.round.length bits.length / f.round.length : Nat) : Int) := rfl
  have hraw : (rawGate f bits).round = (nums bits 0 (lcmN f.round.length bits.length)).map (rt f.round f.len) := by
    unfold rawGate
    rw [R.front]
    rfl
  have hrf : (rawGate f bits).front = [] := by
    unfold rawGate
    rw [R.front]
    rfl
  generalize lcmN f.round.length bits.length = M at *
  have hdq : M / f.round.length ≤ q := by
    have : M / f.round.length ≤ f.round.length * bits.length / f.round.length := Nat.div_le_div_right hMle
    rw [Nat.mul_div_cancel_left _ hn, hbl] at this
    exact this
  obtain ⟨k, hk⟩ := hMq
  have hk' : M = k * bits.length := by rw [hk, Nat.mul_comm]
  have hlen : (rawGate f bits).round.length = k * p := by
    rw [hraw, List.length_map, hk', nums_count, hc]
  have hkpos : 0 < k := by
    rcases Nat.eq_zero_or_pos k with z | z
    · rw [z, Nat.mul_zero] at hk; omega
    · exact z
  have hne : (rawGate f bits).round ≠ [] := fun z => by
    rw [z] at hlen
    have := Nat.mul_pos hkpos (show 0 < p by omega)
    rw [List.length_nil] at hlen
    omega
  have W := rawGate_wf R.wf R.ne (show 1 ≤ bits.length by omega) hw hne
  have hg : gated f bits = some (settled (rawGate f bits).front (rawGate f bits).round (rawGate f bits).len) := by
    rw [gated_raw R.ne, if_neg (by omega)]
  rw [hrf] at hg
  have W' : WF ⟨[], (rawGate f bits).round, (rawGate f bits).len⟩ := by
    rw [← hrf]
    exact W
  obtain ⟨s1, s2, s3⟩ := settled_rate hne W'
  obtain ⟨w1, w2, w3, _⟩ := settled_wf hne W'
  have hhead : (rawGate f bits).round.headD 0 = 0 := by
    rw [hraw]
    have : ∃ r, nums bits 0 M = 0 :: r := by
      unfold nums
      obtain ⟨M', rfl⟩ : ∃ M', M = M' + 1 := ⟨M - 1, by omega⟩
      rw [List.range_succ_eq_map, List.filter_cons]
      have hb0 : bitAt bits ((0 + 0 : Nat) : Int) = true := by
        have := bit_wrap (bits := bits) (k := 0) (j := 0) (by omega)
        rw [Nat.zero_mul] at this
        rw [this]
        exact h0
      rw [hb0, if_pos rfl]
      exact ⟨_, rfl⟩
    obtain ⟨r, hr⟩ := this
    rw [hr]
    show rt f.round f.len 0 = 0
    rw [rt_lt hn, ← headD_eq, R.head]
  refine ⟨_, hg, ?_, w1, s1, w2, by rw [s2]; exact hhead, ?_, ?_⟩
  · unfold checked
    rw [lateOf_round w2, s2, hhead]
    rfl
  · -- the rate
    generalize settled [] (rawGate f bits).round (rawGate f bits).len = g at *
    rw [hlen, hlenraw] at s3
    obtain ⟨j, hj⟩ := hMn
    rw [hj, Nat.mul_div_cancel_left _ hn] at s3
    have hr := R.rate
    have hjk : f.round.length * j = q * k := by rw [← hj, hk, hbl]
    have hlp := rnd.pos
    have hjpos : 0 < j := by
      rcases Nat.eq_zero_or_pos j with z | z
      · rw [z, Nat.mul_zero] at hj; omega
      · exact z
    have e0 : (f.round.length : Int) * (j : Int) = (q : Int) * (k : Int) := by exact_mod_cast hjk
    -- |g| len j = k p l ; n b = len t ; n j = q k
    have e1 : (g.round.length : Int) * (f.len * (j : Int)) = (k : Int) * (p : Int) * g.len := by
      rw [s3, Int.natCast_mul]
    have fin : (f.len * (k : Int)) * ((g.round.length : Int) * ((b : Int) * (q : Int))) = (f.len * (k : Int)) * (g.len * ((t : Int) * (p : Int))) := by
      have a1 : (f.len * (k : Int)) * ((g.round.length : Int) * ((b : Int) * (q : Int))) = (g.round.length : Int) * f.len * (b : Int) * ((q : Int) * (k : Int)) := by
        simp only [Int.mul_assoc, Int.mul_left_comm, Int.mul_comm]
      rw [a1, ← e0]
      have a2 : (g.round.length : Int) * f.len * (b : Int) * ((f.round.length : Int) * (j : Int)) = ((g.round.length : Int) * (f.len * (j : Int))) * ((f.round.length : Int) * (b : Int)) := by
        simp only [Int.mul_assoc, Int.mul_left_comm, Int.mul_comm]
      rw [a2, e1, hr]
      simp only [Int.mul_assoc, Int.mul_left_comm, Int.mul_comm]
    have hpos : f.len * (k : Int) ≠ 0 := by
      have : 0 < f.len * (k : Int) := Int.mul_pos hlp (by omega)
      omega
    have := Int.eq_of_mul_eq_mul_left hpos fin
    rw [Int.natCast_mul, Int.natCast_mul]
    exact this
  · have h2 : (b : Int) * (q : Int) = ((b * q : Nat) : Int) := by rw [Int.natCast_mul]
    have h1 : f.len * ((M / f.round.length : Nat) : Int) ≤ (b : Int) * (q : Int) := Int.mul_le_mul R.le (Int.ofNat_le.mpr hdq) (Int.natCast_nonneg _) (Int.natCast_nonneg _)
    rw [← hlenraw] at h1
    omega
/-- how long the gate of a rated one is, at most -/
theorem raw_short {f : Form} {t b p q : Nat} (R : Rated f t b) : (rawGate f (evenBits p q)).len ≤ ((b * q : Nat) : Int) := by
  have hbl := even_length p q
  generalize evenBits p q = bits at hbl ⊢
  have hn : 0 < f.round.length := List.length_pos_iff.mpr R.ne
  have hMle := lcmN_le (n := f.round.length) (q := bits.length)
  show f.len * ((lcmN f.round.length bits.length / f.round.length : Nat) : Int) ≤ _
  generalize lcmN f.round.length bits.length = M at *
  have hdq : M / f.round.length ≤ q := by
    have : M / f.round.length ≤ f.round.length * bits.length / f.round.length := Nat.div_le_div_right hMle
    rw [Nat.mul_div_cancel_left _ hn, hbl] at this
    exact this
  rw [Int.natCast_mul]
  exact Int.mul_le_mul R.le (Int.ofNat_le.mpr hdq) (Int.natCast_nonneg _) (Int.natCast_nonneg _)
theorem gate_rated {f : Form} {t b p q : Nat} (R : Rated f t b) (hp : 1 ≤ p) (hpq : p ≤ q) (hq : q ≤ 12) (hb : b * q ≤ 5040) : ∃ g, gated f (evenBits p q) = some g ∧ checked g = some g ∧ Rated g (t * p) (b * q) :=
  gate_rated0 R hp hpq hq (by have := raw_short (p := p) (q := q) R; omega)
/-- .. where it is not too long -/
theorem gate_rated1 {f g : Form} {t b p q : Nat} (R : Rated f t b) (hp : 1 ≤ p) (hpq : p ≤ q) (hq : q ≤ 12) (h : gated f (evenBits p q) = some g) : Rated g (t * p) (b * q) := by
  have hw : (rawGate f (evenBits p q)).len ≤ 5040 := by
    rw [gated_raw R.ne] at h
    by_cases c : (rawGate f (evenBits p q)).len > 5040
    · rw [if_pos c] at h
      cases h
    · omega
  obtain ⟨g', h1, _, h2⟩ := gate_rated0 R hp hpq hq hw
  rw [h] at h1
  cases h1
  exact h2
theorem source_rated : Rated ⟨[], [0], 1⟩ 1 1 := ⟨⟨by simp, by simp, fun z => (nomatch z), fun _ => ⟨by simp, by show (0 : Int) < 1; decide, by show (0 : Int) < 0 + 1; decide⟩, by show (1 : Int) ≤ 5040; decide⟩, rfl, by simp, rfl, by decide, by show (1 : Int) ≤ 1; decide⟩
theorem rated_rate {f : Form} {t b : Nat} (R : Rated f t b) (ht : 0 < t) (hb : 0 < b) : (f.round.length : Int) / gcdZ f.round.length f.len = (t : Int) / gcdZ t b ∧ f.len / gcdZ f.round.length f.len = (b : Int) / gcdZ t b := by
  have hn : 0 < f.round.length := List.length_pos_iff.mpr R.ne
  have hp := (R.wf.rnd R.ne).pos
  obtain ⟨l, hl⟩ := Int.eq_ofNat_of_zero_le (show 0 ≤ f.len by omega)
  have hr := R.rate
  rw [hl] at hr hp ⊢
  have hr' : f.round.length * b = l * t := by exact_mod_cast hr
  obtain ⟨a, c⟩ := same_rate hn (by omega) ht hb hr'
  rw [gcdZ_nat, gcdZ_nat, ← Int.natCast_ediv, ← Int.natCast_ediv, ← Int.natCast_ediv, ← Int.natCast_ediv, a, c]
  exact ⟨rfl, rfl⟩
end TD
namespace TD
/-! ### gates of a stock, one around another -/
def ratioAt (st : List (Int × Int)) (n : Int) : Int × Int := st.getD n.toNat (0, 0)
def topOf (st : List (Int × Int)) (ns : List Int) : Int := ns.foldl (fun a n => a * (ratioAt st n).1) 1
def botOf (st : List (Int × Int)) (ns : List Int) : Int := ns.foldl (fun a n => a * (ratioAt st n).2) 1
def gatesOf (st : List (Int × Int)) (ns : List Int) : Beat := ns.foldl (fun b n => .gate (evenBits (ratioAt st n).1.toNat (ratioAt st n).2.toNat) b) .source
theorem gates_rated {st : List (Int × Int)} {ns : List Int} (hst : ∀ n ∈ ns, 1 ≤ (ratioAt st n).1 ∧ 2 * (ratioAt st n).1 ≤ (ratioAt st n).2 ∧ (ratioAt st n).2 ≤ 12) :
    ∀ i, i ≤ ns.length → 1 ≤ topOf st (ns.take i) ∧ 1 ≤ botOf st (ns.take i) ∧ (botOf st (ns.take i) ≤ 5000 → ∃ f, fm (gatesOf st (ns.take i)) = some f ∧ Rated f (topOf st (ns.take i)).toNat (botOf st (ns.take i)).toNat) := by
  intro i
  induction i with
  | zero =>
    intro _
    refine ⟨by show (1 : Int) ≤ 1; decide, by show (1 : Int) ≤ 1; decide, fun _ => ⟨⟨[], [0], 1⟩, rfl, source_rated⟩⟩
  | succ i ih =>
    intro hi
    obtain ⟨h1, h2, h3⟩ := ih (by omega)
    have hn : ns[i]? = some ns[i] := List.getElem?_eq_getElem (by omega)
    obtain ⟨r1, r2, r3⟩ := hst ns[i] (List.getElem_mem _)
    have e : ns.take (i + 1) = ns.take i ++ [ns[i]] := by rw [List.take_add_one, hn]; rfl
    have et : topOf st (ns.take (i + 1)) = topOf st (ns.take i) * (ratioAt st ns[i]).1 := by
      unfold topOf
      rw [e, List.foldl_append]
      rfl
    have eb : botOf st (ns.take (i + 1)) = botOf st (ns.take i) * (ratioAt st ns[i]).2 := by
      unfold botOf
      rw [e, List.foldl_append]
      rfl
    have eg : gatesOf st (ns.take (i + 1)) = .gate (evenBits (ratioAt st ns[i]).1.toNat (ratioAt st ns[i]).2.toNat) (gatesOf st (ns.take i)) := by
      unfold gatesOf
      rw [e, List.foldl_append]
      rfl
    rw [et, eb, eg]
    generalize ratioAt st ns[i] = r at r1 r2 r3
    obtain ⟨p, q⟩ := r
    dsimp only at *
    obtain ⟨p', rfl⟩ := Int.eq_ofNat_of_zero_le (show 0 ≤ p by omega)
    obtain ⟨q', rfl⟩ := Int.eq_ofNat_of_zero_le (show 0 ≤ q by omega)
    obtain ⟨t', ht⟩ := Int.eq_ofNat_of_zero_le (show 0 ≤ topOf st (ns.take i) by omega)
    obtain ⟨b', hb⟩ := Int.eq_ofNat_of_zero_le (show 0 ≤ botOf st (ns.take i) by omega)
    rw [ht] at h1 h3 ⊢
    rw [hb] at h2 h3 ⊢
    have m1 : 0 < t' * p' := Nat.mul_pos (by omega) (by omega)
    have m2 : 0 < b' * q' := Nat.mul_pos (by omega) (by omega)
    refine ⟨?_, ?_, fun hle => ?_⟩
    · rw [← Int.natCast_mul]; omega
    · rw [← Int.natCast_mul]; omega
    · rw [← Int.natCast_mul] at hle
      have hble : b' ≤ b' * q' := Nat.le_mul_of_pos_right _ (by omega)
      obtain ⟨f, hf, R⟩ := h3 (by omega)
      rw [Int.toNat_natCast, Int.toNat_natCast] at R
      obtain ⟨g, g1, g2, g3⟩ := gate_rated (p := p') (q := q') R (by omega) (by omega) (by omega) (by omega)
      refine ⟨g, ?_, ?_⟩
      · rw [Int.toNat_natCast, Int.toNat_natCast]
        show (fm (gatesOf st (ns.take i))).bind _ = _
        rw [hf]
        show (gated f _).bind checked = _
        rw [g1]
        exact g2
      · rw [← Int.natCast_mul, ← Int.natCast_mul, Int.toNat_natCast, Int.toNat_natCast]
        exact g3
end TD

/-! How far a round is from even: its leads. -/
namespace TD
/-- how far the k-th tick leads -/
def leadAt (t : List Int) (len : Int) (k : Nat) : Int := (k : Int) * len - (t.length : Int) * (t.getD k 0 - t.getD 0 0)
def leads (t : List Int) (len : Int) : List Int := (List.range t.length).map (leadAt t len)
/-- so many different ints stand between two -/
theorem asc_le_len : ∀ {l : List Int} {lo hi : Int}, l.Pairwise (· < ·) → (∀ x ∈ l, lo ≤ x ∧ x ≤ hi) → l ≠ [] → (l.length : Int) ≤ hi - lo + 1 := by
  intro l lo hi h hb hne
  cases l with
  | nil => exact absurd rfl hne
  | cons x r =>
    have hx := hb x List.mem_cons_self
    have := asc_len (lo := lo) (hi := hi + 1) h (fun y hy => ⟨(hb y hy).1, by have := (hb y hy).2; omega⟩) (by omega)
    omega
theorem nodup_len {l : List Int} {lo hi : Int} (h : l.Nodup) (hb : ∀ x ∈ l, lo ≤ x ∧ x ≤ hi) (hne : l ≠ []) : (l.length : Int) ≤ hi - lo + 1 := by
  have hp := List.mergeSort_perm l (fun a b => decide (a ≤ b))
  have hs : (l.mergeSort (fun a b => decide (a ≤ b))).Pairwise (fun a b => decide (a ≤ b) = true) := List.pairwise_mergeSort (fun a b c h1 h2 => by simp at *; omega) (fun a b => by simp; omega) l
  have hn : (l.mergeSort (fun a b => decide (a ≤ b))).Nodup := hp.nodup_iff.mpr h
  have hlt : (l.mergeSort (fun a b => decide (a ≤ b))).Pairwise (· < ·) := by
    have := List.Pairwise.and hs hn
    exact this.imp fun {a b} ⟨h1, h2⟩ => by
      have h1 := of_decide_eq_true h1
      omega
  rw [← hp.length_eq]
  refine asc_le_len hlt (fun x hx => hb x (hp.mem_iff.mp hx)) fun z => hne ?_
  have := hp.length_eq
  rw [z] at this
  exact List.length_eq_zero_iff.mp this.symm
/-- at least so far apart: m = g a, len = g b, a and b without a common divisor -/
theorem lead_low {t : List Int} {len : Int} {g a b : Nat} (hm : t.length = g * a) (hl : len = ((g * b : Nat) : Int)) (hg : 0 < g) (ha : 0 < a) (co : Nat.Coprime a b) {hi lo : Int} (hb : ∀ x ∈ leads t len, lo ≤ x ∧ x ≤ hi) : (g : Int) * ((a : Int) - 1) ≤ hi - lo := by
  -- the first a leads over g
  let q : Nat → Int := fun k => (k : Int) * (b : Int) - (a : Int) * (t.getD k 0 - t.getD 0 0)
  have hq : ∀ k, leadAt t len k = (g : Int) * q k := fun k => by
    show (k : Int) * len - (t.length : Int) * _ = _
    show _ = (g : Int) * ((k : Int) * (b : Int) - (a : Int) * (t.getD k 0 - t.getD 0 0))
    rw [hm, hl, Int.natCast_mul, Int.natCast_mul]
    generalize t.getD k 0 - t.getD 0 0 = y
    rw [Int.mul_sub, Int.mul_left_comm, Int.mul_assoc]
  have hale : a ≤ t.length := by rw [hm]; exact Nat.le_mul_of_pos_left _ hg
  have hmem : ∀ k, k < a → lo ≤ (g : Int) * q k ∧ (g : Int) * q k ≤ hi := fun k hk => by
    rw [← hq]
    exact hb _ (List.mem_map.mpr ⟨k, List.mem_range.mpr (by omega), rfl⟩)
  have inj : ∀ i, i < a → ∀ j, j < a → q i = q j → i = j := fun i hi j hj e => by
    have e : (i : Int) * (b : Int) - (a : Int) * (t.getD i 0 - t.getD 0 0) = (j : Int) * (b : Int) - (a : Int) * (t.getD j 0 - t.getD 0 0) := e
    generalize t.getD i 0 - t.getD 0 0 = u at e
    generalize t.getD j 0 - t.getD 0 0 = v at e
    have hd : (a : Int) ∣ ((i : Int) - (j : Int)) * (b : Int) := ⟨u - v, by rw [Int.sub_mul, Int.mul_sub]; omega⟩
    have hd2 : a ∣ ((i : Int) - (j : Int)).natAbs * b := by
      have := Int.natAbs_dvd_natAbs.mpr hd
      rwa [Int.natAbs_mul, Int.natAbs_natCast, Int.natAbs_natCast] at this
    have hd3 : a ∣ ((i : Int) - (j : Int)).natAbs := co.dvd_of_dvd_mul_right hd2
    rcases Nat.eq_zero_or_pos ((i : Int) - (j : Int)).natAbs with z | z
    · omega
    · have := Nat.le_of_dvd z hd3
      omega
  have hnd : ((List.range a).map q).Nodup := by
    refine List.pairwise_map.mpr ?_
    refine (List.pairwise_lt_range (n := a)).imp_of_mem fun {i j} hi hj hij e => ?_
    have := inj i (List.mem_range.mp hi) j (List.mem_range.mp hj) e
    omega
  -- the least and the greatest of them
  have key : ∃ lo' hi' : Int, (∀ x ∈ (List.range a).map q, lo' ≤ x ∧ x ≤ hi') ∧ (g : Int) * (hi' - lo') ≤ hi - lo := by
    have : ∀ n, 0 < n → n ≤ a → ∃ i j, i < a ∧ j < a ∧ ∀ k, k < n → q i ≤ q k ∧ q k ≤ q j := by
      intro n
      induction n with
      | zero => intro h; omega
      | succ n ih =>
        intro _ hn
        by_cases h0 : n = 0
        · refine ⟨0, 0, ha, ha, fun k hk => ?_⟩
          have : k = 0 := by omega
          subst this
          omega
        · obtain ⟨i, j, hi', hj', h⟩ := ih (by omega) (by omega)
          refine ⟨if q n < q i then n else i, if q j < q n then n else j, by split <;> omega, by split <;> omega, fun k hk => ?_⟩
          by_cases hkn : k = n
          · subst hkn
            constructor
            · split <;> omega
            · split <;> omega
          · obtain ⟨h1, h2⟩ := h k (by omega)
            constructor
            · split <;> omega
            · split <;> omega
    obtain ⟨i, j, hi', hj', h⟩ := this a ha (Nat.le_refl _)
    refine ⟨q i, q j, fun x hx => ?_, ?_⟩
    · obtain ⟨k, hk, rfl⟩ := List.mem_map.mp hx
      exact h k (List.mem_range.mp hk)
    · have h1 := (hmem i hi').1
      have h2 := (hmem j hj').2
      rw [Int.mul_sub]
      omega
  obtain ⟨lo', hi', h1, h2⟩ := key
  have hlen := nodup_len hnd h1 (by
    intro z
    have := congrArg List.length z
    rw [List.length_map, List.length_range] at this
    simp at this
    omega)
  rw [List.length_map, List.length_range] at hlen
  refine Int.le_trans (Int.mul_le_mul_of_nonneg_left (show (a : Int) - 1 ≤ hi' - lo' by omega) (Int.natCast_nonneg g)) h2
/-- an even round: its leads are at most so far apart -/
theorem lead_even {t : List Int} {len : Int} {g a b : Nat} (hm : t.length = g * a) (hl : len = ((g * b : Nat) : Int)) (ha : 0 < a) (he : ∀ k, k < t.length → t.getD k 0 - t.getD 0 0 = ((k * b / a : Nat) : Int)) : ∀ x ∈ leads t len, 0 ≤ x ∧ x ≤ (g : Int) * ((a : Int) - 1) := by
  intro x hx
  obtain ⟨k, hk, rfl⟩ := List.mem_map.mp hx
  have hk := List.mem_range.mp hk
  have e : leadAt t len k = (g : Int) * ((k * b % a : Nat) : Int) := by
    show (k : Int) * len - (t.length : Int) * _ = _
    rw [he k hk, hm, hl]
    have := Nat.div_add_mod (k * b) a
    have h2 : ((k * b % a : Nat) : Int) = (k : Int) * (b : Int) - (a : Int) * ((k * b / a : Nat) : Int) := by
      have h3 : ((a * (k * b / a) + k * b % a : Nat) : Int) = ((k * b : Nat) : Int) := by rw [this]
      rw [Int.natCast_add, Int.natCast_mul, Int.natCast_mul] at h3
      omega
    rw [h2, Int.natCast_mul, Int.natCast_mul, Int.mul_sub, Int.mul_left_comm, Int.mul_assoc]
  rw [e]
  have hlt : k * b % a < a := Nat.mod_lt _ ha
  constructor
  · exact Int.mul_nonneg (Int.natCast_nonneg _) (Int.natCast_nonneg _)
  · exact Int.mul_le_mul_of_nonneg_left (by omega) (Int.natCast_nonneg g)
end TD

/-! Gates of the source: how far from even. -/
namespace TD
theorem even_nums : ∀ q, q ≤ 12 → ∀ p, p ≤ 12 → 1 ≤ p → p ≤ q → nums (evenBits p q) 0 q = (List.range p).map fun k => k * q / p := by decide +kernel
/-- the form of a gate of the source -/
structure Gated1 (bits : List Bool) (f : Form) : Prop where
  fm : fm (.gate bits .source) = some f
  wf : WF f
  ne : f.round ≠ []
  rate : f.round.length * bits.length = f.len.toNat * bits.count true
  len : f.len = ((f.len.toNat : Nat) : Int)
  le : f.len ≤ (bits.length : Int)
  rt : ∀ i, rt f.round f.len i = rt ((nums bits 0 bits.length).map fun (i : Nat) => (i : Int)) bits.length i
theorem gate_source {bits : List Bool} (h1 : 1 ≤ bits.length) (h2 : bits.length ≤ 12) (hc : 1 ≤ bits.count true) : ∃ f, Gated1 bits f := by
  have hs : fm .source = some ⟨[], [0], 1⟩ := rfl
  have hl : lcmN 1 bits.length = bits.length := by
    unfold lcmN
    rw [Nat.gcd_one_left, Nat.div_one, Nat.one_mul]
  have hr0 : ∀ i, rt [0] 1 i = (i : Int) := fun i => by
    unfold rt
    rw [List.length_singleton, Nat.mod_one, Nat.div_one]
    show (0 : Int) + (i : Int) * 1 = (i : Int)
    omega
  have hraw : rawGate ⟨[], [0], 1⟩ bits = ⟨[], (nums bits 0 bits.length).map (fun (i : Nat) => (i : Int)), bits.length⟩ := by
    unfold rawGate
    show (⟨[], (nums bits 0 (lcmN 1 bits.length)).map (rt [0] 1), 1 * ((lcmN 1 bits.length / 1 : Nat) : Int)⟩ : Form) = _
    rw [hl, Nat.div_one, Int.one_mul, show rt [0] 1 = fun (i : Nat) => (i : Int) from funext hr0]
  have hcount : (nums bits 0 bits.length).length = bits.count true := by
    have := nums_count bits 1
    rw [Nat.one_mul, Nat.one_mul] at this
    exact this
  have hne : (rawGate ⟨[], [0], 1⟩ bits).round ≠ [] := fun z => by
    rw [hraw] at z
    have := congrArg List.length z
    rw [List.length_map, hcount] at this
    simp at this
    omega
  have W := rawGate_wf (bits := bits) source_rated.wf (by simp) h1 (by rw [hraw]; show (bits.length : Int) ≤ 5040; omega) hne
  rw [hraw] at W hne
  obtain ⟨w1, w2, w3, w4⟩ := settled_wf hne W
  obtain ⟨s1, s2, s3⟩ := settled_rate hne W
  have hg : gated ⟨[], [0], 1⟩ bits = some (settled [] ((nums bits 0 bits.length).map (fun (i : Nat) => (i : Int))) bits.length) := by
    rw [gated_raw (by simp), hraw, if_neg (by show ¬ (bits.length : Int) > 5040; omega)]
  have hpos : 0 < (settled [] ((nums bits 0 bits.length).map (fun (i : Nat) => (i : Int))) bits.length).len := (w1.rnd w2).pos
  refine ⟨settled [] ((nums bits 0 bits.length).map (fun (i : Nat) => (i : Int))) bits.length, ?_, w1, w2, ?_, by omega, w3, ?_⟩
  · show (fm .source).bind _ = _
    rw [hs]
    show (gated _ bits).bind checked = _
    rw [hg]
    show checked _ = _
    unfold checked
    rw [if_neg]
    rw [lateOf_round w2, s2]
    have hm := headD_mem hne
    obtain ⟨i, hi, e⟩ := List.mem_map.mp hm
    have := nums_lt hi
    rw [← e]
    omega
  · have e : ((settled [] ((nums bits 0 bits.length).map (fun (i : Nat) => (i : Int))) bits.length).round.length : Int) * (bits.length : Int) = (bits.count true : Int) * (settled [] ((nums bits 0 bits.length).map (fun (i : Nat) => (i : Int))) bits.length).len := by
      rw [← hcount]
      rw [List.length_map] at s3
      exact s3
    obtain ⟨l, hl⟩ := Int.eq_ofNat_of_zero_le (show 0 ≤ (settled [] ((nums bits 0 bits.length).map (fun (i : Nat) => (i : Int))) bits.length).len by omega)
    rw [hl] at e ⊢
    rw [Int.toNat_natCast, Nat.mul_comm l]
    exact_mod_cast e
  · intro i
    have := w4 i
    unfold tk at this
    dsimp only at this
    rw [s1, if_neg w2, if_neg hne] at this
    simpa using this
/-- what is reduced comes to the same -/
theorem near_iff {top bottom a : Nat} (hb : 0 < bottom) (ha : 0 < a) (co : Nat.gcd top bottom = 1) : top * a = (a - 1) * bottom ↔ top = a - 1 ∧ bottom = a := by
  constructor
  · intro h
    by_cases h1 : a = 1
    · subst h1
      rw [Nat.mul_one, Nat.sub_self, Nat.zero_mul] at h
      subst h
      rw [Nat.gcd_zero_left] at co
      exact ⟨rfl, co⟩
    · have ht : 0 < top := by
        rcases Nat.eq_zero_or_pos top with z | z
        · rw [z, Nat.zero_mul] at h
          have := Nat.mul_pos (show 0 < a - 1 by omega) hb
          omega
        · exact z
      have hco2 : Nat.gcd (a - 1) a = 1 := by
        obtain ⟨c, rfl⟩ : ∃ c, a = c + 1 := ⟨a - 1, by omega⟩
        rw [Nat.add_sub_cancel]
        simp
      obtain ⟨x, y⟩ := same_rate (n := top) (l := bottom) (t := a - 1) (b := a) ht hb (by omega) ha (by rw [h, Nat.mul_comm])
      rw [co, hco2, Nat.div_one, Nat.div_one] at x y
      exact ⟨x, y⟩
  · rintro ⟨rfl, rfl⟩
    rfl
end TD

/-! A lambda with one default number, handed to a def. -/
namespace TD
open PySem PySem.Spec PyProof.Rows L2 LamX
section
variable {X : Cx} {pins : List (Addr × Obj)} {σ : L2.St} {H : Hp} {s : Shared}
/-- an object that was laid behind the old heap's end is told -/
theorem inv_tell {f : Addr} {o : HO} {ob : Obj} (I : Inv X pins σ H s) (hn : H f = none) (hf : s.heap.get? f = some ob) (h0 : X.s_0.heap.objs.size ≤ f) (hl : f ≠ X.env.locals) (hc : ∀ x c, X.env.cells.lookup x = some c → c ≠ f) (hp : ∀ p ∈ X.pn ++ pins, p.1 ≠ f)
    (new : ObjOk X.prog X.w (upd H f o) s.heap f o) : Inv X pins σ (upd H f o) s := by
  have ne : ∀ b u, H b = some u → b ≠ f := fun b u e => ne_of_none e hn
  refine I.step (h' := s.heap) (t' := s.toks) (g' := s.gens) (d' := s.drawn) (ch := [f]) (fun b hb => ?_) (fun b o _ _ _ e _ => e) (fun b o _ _ _ e _ => ⟨o.slots, e⟩) (fun b o hb e n => ?_) (fun b o _ e => ⟨o, e⟩)
    (fun b xs e => by rw [upd_ne (ne b _ e)]; exact e) (fun b o u e => by rw [upd_ne (ne b _ e)]; exact e) (fun b ps e => ⟨#[], by rw [upd_ne (ne b _ e)]; simpa using e⟩) (fun m h => h) (fun b u e => ?_) I.bare
  · rw [List.mem_singleton.mp hb]
    exact ⟨.inr h0, hl, hc, hp⟩
  · rw [upd_ne (fun z => hb (by rw [z]; exact List.mem_singleton_self _))]
    exact n
  · by_cases hb : b = f
    · subst hb
      rw [upd_same] at e
      cases e
      exact new
    · rw [upd_ne hb] at e
      exact (I.hok b u e).stay (fun d v _ q => q) (fun d q => by rw [upd_ne (ne d _ q)]; exact q) fun d xs q => by rw [upd_ne (ne d _ q)]; exact q
/-- what is behind the heap's end stands apart from the frame -/
structure StandsApart (X : Cx) (pins : List (Addr × Obj)) (f : Addr) : Prop where
  h0 : X.s_0.heap.objs.size ≤ f
  hl : f ≠ X.env.locals
  hc : ∀ x c, X.env.cells.lookup x = some c → c ≠ f
  hp : ∀ p ∈ X.pn ++ pins, p.1 ≠ f
  hf : f ∉ frs X.stack
theorem behind {f : Addr} (I : Inv X pins σ H s) (hf : s.heap.objs.size ≤ f) : StandsApart X pins f := by
  have lt : ∀ b o, s.heap.get? b = some o → b ≠ f := fun b o e z => by
    rw [z] at e
    exact Nat.lt_irrefl _ (Nat.lt_of_lt_of_le (Heap.lt_size e) hf)
  refine ⟨Nat.le_trans I.sz hf, fun z => ?_, fun x c e => ?_, fun p hp => lt _ _ (I.pin p hp).1, fun z => ?_⟩
  · have h1 := I.lt
    rw [← z] at h1
    exact Nat.lt_irrefl _ (Nat.lt_of_lt_of_le h1 hf)
  · obtain ⟨v, o, ho, _⟩ := I.cell x c e
    exact lt _ _ ho
  · rcases List.mem_cons.mp (I.stkSub _ z) with e | e
    · have h1 := I.lt
      rw [← e] at h1
      exact Nat.lt_irrefl _ (Nat.lt_of_lt_of_le h1 hf)
    · exact I.nofs hf e
theorem lam_make3 {T : List (Addr × Str)} {c P : Addr} {params : Arguments} {body : Expr} {scope : Scope} {pos : Pos} {n : Int} {j : Nat} {cp : Pos} {E : Value → Shared → Prop} {Q : Value → Shared → Prop} (I : Inv X pins σ H s) (TB : TabB X.base X.mg c P) (hcode : X.env.code = .ref c)
    (hm : (P, X.env.qual ++ "<lambda>") ∈ T) (hu : ∀ p ∈ T, p.1 = P → p.2 = X.env.qual ++ "<lambda>") (hT : Tabs T H) (hd : params.defaults = [.Constant (.int n) j cp]) (hk0 : params.kw_defaults = []) (hfree : ∀ y ∈ scope.names, y.2 = .free → ∃ c, X.env.cells.lookup y.1 = some c)
    (hE : X.xe = E)
    (h : ∀ (f c' D : Addr) (td : Tok) (pm ctv doc : Value) (H1 : Hp) (s' : Shared), Inv X pins σ H1 s' → ExtN H H1 → Tabs T H1 →
      s'.heap.get? f = some (PySem.W.kdv_obj "<lambda>" (X.env.qual ++ "<lambda>") params (.expr body) scope (cloFrom X.env.cells scope.names []) (.ref D) doc pm c' ctv) → s'.heap.get? D = some (PySem.W.kdv_tup [.int n td]) →
      H1 f = none → f ∉ frs X.stack → H1 D = none → D ∉ frs X.stack → H1 c' = some (CodeO c' (X.env.qual ++ "<lambda>")) → StandsApart X pins f → StandsApart X pins D → Q (.ref f) s') :
    wpAny (model X.prog X.w) X.A (eval (.Lambda params body scope pos) X.env) Q E s := by
  refine PySem.W.kdv_lam (by rw [hd] <;> rfl) hk0 ?_
  rw [hd]
  subst hE
  refine PySem.W.kdv_all1 (thn ((pe_int (X := X)).run pins s σ H (fun v H1 => v = .int n ∧ H1 = H) I ⟨rfl, rfl⟩) fun u s1 ⟨v, H1, I1, r1, e1, e2⟩ => PySem.W.kdv_all0 ?_)
  subst e1 e2
  obtain ⟨td, rfl⟩ := r1
  rw [PySem.makeFunction_eq]
  simp only [List.zip_nil_right, List.filterMap_nil, List.isEmpty_nil, if_true, pure_bind, List.isEmpty_cons, Bool.false_eq_true, if_false]
  refine wpAny_bind (wpAny_newTextTuple ?_)
  have I2 : Inv X pins σ H1 { s1 with heap := s1.heap.push (PySem.W.kdv_tup [.int n td]) } := I1.kept (t' := s1.toks) fun b o e => Heap.get?_push_of_some _ e
  obtain ⟨ps, hP, ht, ha⟩ := hT _ hm
  have bP := TB.bm.keeps I2.bk
  have hP' : (s1.heap.push (PySem.W.kdv_tup [.int n td])).get? P = some { cls := .none, data := .fields ps } := I2.hok P _ hP
  have nofr : ∀ f, s1.heap.objs.size ≤ f → f ∉ frs X.stack := fun f hf z => by
    rcases List.mem_cons.mp (I1.stkSub _ z) with e | e
    · have h1 := I1.lt
      rw [← e] at h1
      exact Nat.lt_irrefl _ (Nat.lt_of_lt_of_le h1 hf)
    · exact I1.nofs hf e
  have hDg : (s1.heap.push (PySem.W.kdv_tup [.int n td])).get? s1.heap.objs.size = some (PySem.W.kdv_tup [.int n td]) := Heap.get?_push_size _ rfl
  have nD : H1 s1.heap.objs.size = none := I1.hok.fresh (Nat.le_refl _)
  have nDP : s1.heap.objs.size ≠ P := fun z => by
    rw [z, hP] at nD
    cases nD
  have hs2 : (s1.heap.push (PySem.W.kdv_tup [.int n td])).objs.size = s1.heap.objs.size + 1 := by rw [Heap.size_push]
  cases hc : codeAmong pos ps.toList with
  | none =>
    refine PySem.W.kdv_makeTail (mg := X.mg) (c := c) (P := P) (ps := ps) (closure_ok hfree) I2.ok.glob (I2.mod.glob.keeps I2.bk) hcode (TB.code.keeps I2.bk) hP' ht hc TB.gP bP fun c' ctv doc h' tk hx hge hlt hrec htb => ?_
    obtain ⟨c2, oc, vs, t, e2, hoc, hd2, hv⟩ := hrec
    cases e2
    have hge1 : s1.heap.objs.size + 1 ≤ c' := by rw [← hs2]; exact hge
    have hsz : (s1.heap.push (PySem.W.kdv_tup [.int n td])).objs.size ≤ h'.objs.size := Nat.le_trans hge (Nat.le_of_lt hlt)
    have nC : H1 c' = none := I2.hok.fresh hge
    have I3 := inv_table (t' := tk) (more := #[rawInt pos.line, rawInt pos.col, .ref c']) (h' := h'.push (PySem.W.kdv_obj "<lambda>" (X.env.qual ++ "<lambda>") params (.expr body) scope (cloFrom X.env.cells scope.names []) (.ref s1.heap.objs.size) doc ((X.mg "__name__").getD .none) c' ctv)) I2 hP
      (fun b o hb e => Heap.get?_push_of_some _ (hx b o hb e)) (Heap.get?_push_of_some _ htb) hge ⟨oc, vs, t, Heap.get?_push_of_some _ hoc, hd2, hv⟩
    have hE : ExtN H1 (upd (upd H1 P (.tbl (ps ++ #[rawInt pos.line, rawInt pos.col, .ref c']))) c' (CodeO c' (X.env.qual ++ "<lambda>"))) := fun b o e n => by
      rw [upd_ne (ne_of_none e nC), upd_ne (fun z => n ps (Option.some.inj (e.symm.trans (by rw [z]; exact hP))))]
      exact e
    have eL : (ps ++ #[rawInt pos.line, rawInt pos.col, .ref c']).toList = ps.toList ++ [rawInt pos.line, rawInt pos.col, .ref c'] := by simp
    refine h h'.objs.size c' s1.heap.objs.size td ((X.mg "__name__").getD .none) ctv doc _ _ I3 hE (fun p hp => ?_) (Heap.get?_push_size _ rfl) (Heap.get?_push_of_some _ (hx _ _ nDP hDg)) ?_ (nofr _ (by omega)) ?_ (nofr _ (Nat.le_refl _)) upd_same (behind I1 (by omega)) (behind I1 (Nat.le_refl _))
    · by_cases hb : p.1 = P
      · rw [hu p hp hb, hb]
        refine ⟨_, by rw [upd_ne (ne_of_none hP nC), upd_same], by rw [eL]; exact PySem.TriplesOk_snoc _ _ _ _ ht, fun p' cv hcv => ?_⟩
        rw [eL] at hcv
        rcases among_app _ ht hcv with z | z
        · obtain ⟨c0, e1, e2⟩ := ha p' cv z
          exact ⟨c0, e1, hE _ _ e2 codeO_ne⟩
        · exact ⟨c', z, upd_same⟩
      · obtain ⟨ps', a1, a2, a3⟩ := hT p hp
        refine ⟨ps', by rw [upd_ne (ne_of_none a1 nC), upd_ne hb]; exact a1, a2, fun p' cv hcv => ?_⟩
        obtain ⟨c0, e1, e2⟩ := a3 p' cv hcv
        exact ⟨c0, e1, hE _ _ e2 codeO_ne⟩
    · have n1 : h'.objs.size ≠ c' := Nat.ne_of_gt hlt
      have n2 : h'.objs.size ≠ P := Nat.ne_of_gt (Nat.lt_of_lt_of_le (Heap.lt_size hP') hsz)
      rw [upd_ne n1, upd_ne n2]
      exact I2.hok.fresh hsz
    · have n1 : s1.heap.objs.size ≠ c' := by omega
      rw [upd_ne n1, upd_ne nDP]
      exact nD
  | some cv =>
    obtain ⟨c', e, hco⟩ := ha pos cv hc
    subst e
    refine PySem.W.kdv_makeTailHit (mg := X.mg) (c := c) (P := P) (ps := ps) (closure_ok hfree) I2.ok.glob (I2.mod.glob.keeps I2.bk) hcode (TB.code.keeps I2.bk) hP' ht hc bP fun ctv doc h' tk hx hsz => ?_
    have I3 : Inv X pins σ H1 { s1 with heap := h'.push (PySem.W.kdv_obj "<lambda>" (X.env.qual ++ "<lambda>") params (.expr body) scope (cloFrom X.env.cells scope.names []) (.ref s1.heap.objs.size) doc ((X.mg "__name__").getD .none) c' ctv), toks := tk } := I2.kept fun b o e => Heap.get?_push_of_some _ (hx b o e)
    have hsz2 : s1.heap.objs.size + 1 ≤ h'.objs.size := by rw [← hs2]; exact hsz
    exact h h'.objs.size c' s1.heap.objs.size td ((X.mg "__name__").getD .none) ctv doc H1 _ I3 (ExtN.refl H1) hT (Heap.get?_push_size _ rfl) (Heap.get?_push_of_some _ (hx _ _ hDg)) (I2.hok.fresh hsz) (nofr _ (by omega)) nD (nofr _ (Nat.le_refl _)) hco (behind I1 (by omega)) (behind I1 (Nat.le_refl _))
end
/-! ### the lambda's names: one parameter of its own -/
structure LamSD (sc scope : Scope) (N : List Str) (a : Str) : Prop where
  kind : scope.kind = .function
  co : scope.isCoroutine = false
  gen : scope.isGenerator = false
  own : ∀ y ∈ scope.names, (y.2 = .local → y.1 ∉ N) ∧ y.2 ≠ .cell
  par : scope.names.lookup a = some .local
  free : ∀ y ∈ scope.names, y.2 = .free → sc.names.lookup y.1 = some .cell ∨ sc.names.lookup y.1 = some .free
def lamSDB (sc scope : Scope) (N : List Str) (a : Str) : Bool :=
  decide (scope.kind = .function) && !scope.isCoroutine && !scope.isGenerator && decide (scope.names.lookup a = some .local) && scope.names.all fun y => (!decide (y.2 = .local) || !N.contains y.1) && !decide (y.2 = .cell) && (!decide (y.2 = .free) || decide (sc.names.lookup y.1 = some .cell) || decide (sc.names.lookup y.1 = some .free))
theorem lamSD_by {sc scope : Scope} {N : List Str} {a : Str} (h : lamSDB sc scope N a = true) : LamSD sc scope N a := by
  unfold lamSDB at h
  simp only [Bool.and_eq_true, Bool.or_eq_true, Bool.not_eq_true', decide_eq_true_eq, decide_eq_false_iff_not, List.all_eq_true] at h
  obtain ⟨⟨⟨⟨h1, h2⟩, h3⟩, h5⟩, h4⟩ := h
  refine ⟨h1, h2, h3, fun y hy => ⟨fun e hm => ?_, (h4 y hy).1.2⟩, h5, fun y hy e => ?_⟩
  · rcases (h4 y hy).1.1 with z | z
    · exact z e
    · rw [List.contains_iff_mem.mpr hm] at z
      cases z
  · rcases (h4 y hy).2 with (z | z) | z
    · exact absurd e z
    · exact .inl z
    · exact .inr z
theorem LamSD.has {X : Cx} {scope : Scope} {N : List Str} {a : Str} (L : LamSD X.env.scope scope N a) (ok : X.Ok) : ∀ y ∈ scope.names, y.2 = .free → ∃ c, X.env.cells.lookup y.1 = some c := fun y hy e => by
  rcases L.free y hy e with k | k
  · exact ok.has _ (.inl k)
  · exact ok.has _ (.inr k)
section
variable {X : Cx} {pins : List (Addr × Obj)} {σ : L2.St} {H HZ : Hp} {s s1 : Shared}
theorem lam_start3 {A : Around} {outer : List Env} {E : XK} {scope : Scope} {a : Str} {m : Str → Option Value} {f c' : Addr} {h₁ : Heap} {tk : Nat} (I : Inv X pins σ H s) (L : LamSD X.env.scope scope X.N a) (e0 : Env0 X.prog X.w X.K X.mg X.base A outer s1 HZ) (hd : A.handled = none)
    (un : Un (frs X.stack) [] H HZ s.heap s1.heap) (hns : h₁.Ns s1.heap.objs.size m) (kp : ∀ b o, s1.heap.get? b = some o → h₁.get? b = some o) :
    Inv (lamCx X A outer s1 HZ E scope f c') [] σ HZ { s1 with heap := h₁, toks := tk } := by
  have hfree := L.has I.ok
  have cm : ∀ {y c}, (cloFrom X.env.cells scope.names []).lookup y = some c → X.env.cells.lookup y = some c := fun {y c} e => by
    rcases cloFrom_mem (PySem.mem_of_lookup e) with hm | ⟨h1, h2⟩
    · cases hm
    · obtain ⟨c1, hc⟩ := hfree _ h1 rfl
      have hc : X.env.cells.lookup y = some c1 := hc
      have e2 : c = c1 := by
        rw [h2, hc] <;> rfl
      rw [e2]
      exact hc
  have look : ∀ {y}, scope.names.lookup y = some .free → ∃ c, (cloFrom X.env.cells scope.names []).lookup y = some c := fun {y} hl => by
    have hy : (y, NameKind.free) ∈ scope.names := PySem.mem_of_lookup hl
    exact mem_lookup (cloFrom_has (cells := X.env.cells) (acc := []) hy)
  have cellK : ∀ {c : Addr} {v : Option Value}, H c = none → s.heap.IsCell c v → h₁.IsCell c v := fun {c v} n ⟨o, ho, hd⟩ => by
    obtain ⟨sl, q⟩ := un.any ho n (by simp)
    exact ⟨_, kp _ _ q, hd⟩
  have noA : ∀ b : Addr, b ∉ (lamCx X A outer s1 HZ E scope f c').ex := fun b z => absurd (show b ∈ ([] : List Addr) from z) (by simp)
  refine ⟨⟨e0.mod, L.kind, rfl, rfl, Nat.le_refl _, fun y z c e1 e2 => I.ok.inj y z c (cm e1) (cm e2), fun y hy => ?_, fun y c z _ => ?_, fun _ => hd, Around.frames_deeper e0.frames, .inr ⟨rfl, rfl⟩, fun b z => absurd z (noA b), e0.bs, e0.bsz, fun b _ _ => noA b,
      fun b z => absurd z (noA b), e0.funs, e0.frf⟩,
    rfl, e0.bare, Un.kept kp, ⟨_, hns, fun i y v e1 e2 e3 => ?_⟩, fun y c e => ?_, e0.hok.fresh (Nat.le_refl _), fun y c e => ?_, fun q hq => absurd (show q ∈ ([] : List (Addr × Obj)) ++ [] from hq) (by simp), e0.hok.kept kp, I.len⟩
  · have hy : scope.names.lookup y = some .cell ∨ scope.names.lookup y = some .free := hy
    rcases hy with hy | hy
    · exact absurd rfl (L.own _ (PySem.mem_of_lookup hy)).2
    · exact look hy
  · have z : false = true := z
    cases z
  · have e3 : Vis scope y := e3
    rcases e3 with k | k | k
    · exact absurd (List.mem_of_getElem? (show X.N[i]? = some y from e1)) ((L.own _ (PySem.mem_of_lookup k)).1 rfl)
    · exact absurd rfl (L.own _ (PySem.mem_of_lookup k)).2
    · obtain ⟨m, hn, hl⟩ := I.loc
      have hvis : Vis X.env.scope y := (L.free _ (PySem.mem_of_lookup k) rfl).elim (fun k => .inr (.inl k)) (fun k => .inr (.inr k))
      obtain ⟨w', r, q⟩ := hl i y v e1 e2 hvis
      obtain ⟨c2, h2⟩ := look k
      refine ⟨w', r, .inr ⟨.inr k, c2, h2, ?_⟩⟩
      have c1 := cm h2
      rcases q with ⟨k', _⟩ | ⟨_, c3, e', z⟩
      · have k' : X.env.scope.names.lookup y = some .local := k'
        rcases L.free _ (PySem.mem_of_lookup k) rfl with k2 | k2 <;> rw [show X.env.scope.names.lookup y = _ from k2] at k' <;> cases k'
      · rw [c1] at e'
        cases e'
        exact cellK (I.freeC y _ c1) z
  · obtain ⟨w', z⟩ := I.cell y c (cm e)
    exact ⟨w', cellK (I.freeC y c (cm e)) z⟩
  · obtain ⟨v, o, ho, hd⟩ := I.cell y c (cm e)
    exact un.free c o ho (I.freeC y c (cm e)) (by simp)
theorem pe_act3 {CXg : CXT} {Eg : XK} {Ng : List Str} {qg : Str} {sg : Scope} {g f c' D : Addr} {cdg pm ctv doc : Value} {params : Arguments} {body : Expr} {scope : Scope} {k i : Nat} {a par : Str} {n : Int} {td : Tok} {pn : List (Addr × Obj)} {xe : Value → Shared → Prop} {W : WX} {E : XK} {tb : TE} {p1 p2 : Pos}
    (I : Inv X pins σ H s) (L : LamSD X.env.scope scope X.N par) (hf : s.heap.get? f = some (PySem.W.kdv_obj "<lambda>" (X.env.qual ++ "<lambda>") params (.expr body) scope (cloFrom X.env.cells scope.names []) (.ref D) doc pm c' ctv)) (hfn : H f = none) (hfr : f ∉ frs X.stack)
    (hD : s.heap.get? D = some (PySem.W.kdv_tup [.int n td])) (hDn : H D = none) (hDr : D ∉ frs X.stack)
    (hbind : ∀ (s : Shared), s.heap.get? D = some (PySem.W.kdv_tup [.int n td]) → BindsTo s (PySem.W.kdv_fn "<lambda>" (X.env.qual ++ "<lambda>") params (.expr body) scope (cloFrom X.env.cells scope.names []) (.ref D) doc pm (.ref c') ctv) ⟨[], []⟩ [(par, .int n td)])
    (tk : Takes ((cxOf CXg X.prog X.w X.K X.mg X.base Ng qg sg g cdg X.A X.stack s H Eg).tr pn xe) W) (hW : ∀ cls d σ' H', E cls d H' → W cls d σ' H') (hr : Room (k + 1) (X.A.deeper (envOfC qg sg s.heap.objs.size g cdg)))
    (hbody : ∀ (A : Around) (outer : List Env) (s : Shared) (H : Hp), Room k (A.deeper (lamEnv X scope s.heap.objs.size f c')) → PE (lamCx X A outer s H E scope f c') body tb)
    (hN : Ng[i]? = some a) (hv : Vis sg a) (hd : (a == ("__debug__" : Str)) = false := by decide) (hcd : (a == ("__classdict__" : Str)) = false := by decide) :
    PE ((cxOf CXg X.prog X.w X.K X.mg X.base Ng qg sg g cdg X.A X.stack s H Eg).tr pn xe) (.Call (.Name a p1) [] [] p2)
      (fun σZ HZ Q => σZ[i]? = some (some (.ref f)) ∧ HZ c' = some (CodeO c' (X.env.qual ++ "<lambda>")) ∧ tb σ HZ Q) := by
  refine ⟨fun pinsZ sZ σZ HZ Q IZ h => ?_⟩
  obtain ⟨hs, hc, ht⟩ := h
  refine wpAny_Call_Name_kw (thn ((pe_var (pos := p1) (i := i) hN hv hd hcd).run pinsZ sZ σZ HZ (fun v H1 => v = .ref f ∧ H1 = HZ) IZ ⟨.ref f, hs, rfl, rfl⟩) fun u s1 ⟨v, H1, I1, r1, q1⟩ => ?_)
  obtain ⟨ev, eH⟩ := q1
  subst ev
  rw [eH] at I1
  obtain rfl : u = Value.ref f := r1
  have of1 : s1.heap.get? f = some (PySem.W.kdv_obj "<lambda>" (X.env.qual ++ "<lambda>") params (.expr body) scope (cloFrom X.env.cells scope.names []) (.ref D) doc pm c' ctv) := I1.base.keep f _ hf hfn hfr (fun z => nomatch (show f ∈ ([] : List Addr) from z))
  have oD1 : s1.heap.get? D = some (PySem.W.kdv_tup [.int n td]) := I1.base.keep D _ hD hDn hDr (fun z => nomatch (show D ∈ ([] : List Addr) from z))
  refine PySem.W.callWith_F0 ⟨_, _, _, _, of1⟩ ?_
  have un : Un (frs X.stack) [] H HZ s.heap s1.heap := I1.base
  obtain ⟨⟨oc, vs, t, hoc, hdc, hvc⟩, _, _⟩ := I1.hok c' _ hc
  have rc : codeAny (model X.prog X.w) (X.A.deeper (envOfC qg sg s.heap.objs.size g cdg)) (.call (.ref f) ⟨[], []⟩) (CR (L2.CX X.prog X.w) (envOfC qg sg s.heap.objs.size g cdg :: X.stack) X.prog X.w HZ s1 Q E) s1 := by
    refine PySem.W.kla_callFunE hr.depth of1 rfl L.co L.gen rfl ⟨c', oc, vs, t, rfl, hoc, hdc, hvc⟩ ?_
    refine hbind s1 oD1 _ _ _ _ ?_
    refine wpAny_newFunctionEnv (fun y hy => (L.own y hy).2) (fun y hy => ?_) (fun h₁ hns hsb => ⟨I1.nolimit.fresh _ hsb, ?_⟩) L.kind
    · rw [List.mem_singleton] at hy
      subst hy
      exact L.par
    show codeAny _ _ (.expr body (lamEnv X scope s1.heap.objs.size f c')) _ _
    have kp : ∀ b o, s1.heap.get? b = some o → h₁.get? b = some o := fun b o e => hsb.extBut b o (Nat.ne_of_lt (Heap.lt_size e)) (Heap.get?_push_of_some _ e)
    have J : Inv (lamCx X (X.A.deeper (envOfC qg sg s.heap.objs.size g cdg)) (envOfC qg sg s.heap.objs.size g cdg :: X.stack) s1 HZ E scope f c') [] σ HZ { s1 with heap := h₁, toks := s1.toks + ([(par, Value.int n td)] : List (Str × Value)).length } :=
      lam_start3 I L I1.env0 hr.hd un hns kp
    refine PySem.W.kla_codeExpr (wpAny_mono ((hbody _ _ s1 HZ (hr.deeper _)).run [] _ _ HZ Q J ht) (fun v s' hq => ?_) fun e s' hq => hq)
    obtain ⟨w', H', J', rv, q⟩ := hq
    exact ⟨w', H', J'.os, J'.bare, J'.base, J'.hok, rv, q⟩
  have hx : Passes (L2.CX X.prog X.w) ((cxOf CXg X.prog X.w X.K X.mg X.base Ng qg sg g cdg X.A X.stack s H Eg).tr pn xe) E := passes_call tk hW
  refine wpAny_call (codeAny_mono rc fun r s' hq => ?_)
  cases r with
  | error e => exact hx pinsZ σZ HZ s1 e s' I1 hq
  | ok fl =>
    cases fl with
    | ret u => exact I1.after hq
    | next => exact False.elim hq
    | brk => exact False.elim hq
    | cont => exact False.elim hq
end
section
variable {X : Cx}
/-- x(lambda par=n: body) -/
theorem pe_lamcallD {T : List (Addr × Str)} {TT : (XK → Hp → VK → Prop) → Hp → VK → Prop} {x a par : Str} {g c P : Addr} {k : Nat} {pg : Arguments} {bg : List Stmt} {sg : Scope} {dV kV doc pm cdv ct oc : Value} {an od : Option Addr} {osl : Array (Option Value)} {Ng : List Str}
    {params : Arguments} {body : Expr} {scope : Scope} {n : Int} {j : Nat} {cp : Pos} {t : XK → TE} {p lpos pos : Pos} (hg : Gl X x) (hm : X.mg x = some (.ref g)) (hk : PySem.W.keepIn X.K (.ref g) = true)
    (lk : X.K.lookup g = some ⟨oc, od, .func (PySem.W.fnOf x x pg bg sg dV kV doc pm an cdv ct), osl⟩) (hcg : PySem.W.codeIn X.K cdv x = true) (hb : L2.Binds X.K (PySem.W.fnOf x x pg bg sg dV kV doc pm an cdv ct) [a] []) (Sg : FnScope Ng [a] sg) (hNg : Ng[0]? = some a) (hva : Vis sg a)
    (hG : GivesTo X Ng x sg g cdv bg a (X.env.qual ++ "<lambda>") TT)
    (TB : TabB X.base X.mg c P) (hcode : X.env.code = .ref c) (hmT : (P, X.env.qual ++ "<lambda>") ∈ T) (hu : ∀ p ∈ T, p.1 = P → p.2 = X.env.qual ++ "<lambda>") (hr : Room (k + 2) X.A) (L : LamSD X.env.scope scope X.N par) (hd : params.defaults = [.Constant (.int n) j cp]) (hk0 : params.kw_defaults = [])
    (hbind : ∀ (s : Shared) (q : Str) (cl : List (Str × Addr)) (D : Addr) (td : Tok) (doc pm cv ctv : Value), s.heap.get? D = some (PySem.W.kdv_tup [.int n td]) → BindsTo s (PySem.W.kdv_fn "<lambda>" q params (.expr body) scope cl (.ref D) doc pm cv ctv) ⟨[], []⟩ [(par, .int n td)])
    (hbody : ∀ (A : Around) (outer : List Env) (s : Shared) (H : Hp) (E : XK) (f c' : Addr), Room k (A.deeper (lamEnv X scope s.heap.objs.size f c')) → PE (lamCx X A outer s H E scope f c') body (t E))
    (hdb : (x == ("__debug__" : Str)) = false := by decide) (hdd : (a == ("__debug__" : Str)) = false := by decide) (hcd : (a == ("__classdict__" : Str)) = false := by decide) :
    PE X (.Call (.Name x p) [.Lambda params body scope lpos] [] pos) (tLam T TT t) := by
  refine ⟨fun pins s σ H Q I h => ?_⟩
  obtain ⟨hT, h⟩ := h
  refine wpAny_Call_Name_kw (ld_glob I hg hm ?_ hdb)
  refine PySem.W.callWith_K (h₀ := X.base) I.ok.mod.kin hk ?_ (by rfl) (by rfl)
  show wpAny _ _ (spliced ((false, eval (.Lambda params body scope lpos) X.env) :: backTo pos (starEach [] X.env))) _ _ s
  refine Calls.spliced_cons (lam_make3 I TB hcode hmT hu hT hd hk0 (L.has I.ok) rfl fun f c' D td pm' ctv doc' H1 s' I1 eN T1 hf hDg hfn hfr hDn hDr hco _ _ => ?_)
  refine Calls.spliced_nil ⟨I1.kIn, ?_⟩
  have rc : codeAny (model X.prog X.w) X.A (.call (.ref g) ⟨[.ref f], []⟩) (CR C8.CX0 X.stack X.prog X.w H1 s' Q C8.E0) s' := by
    refine run_ofS (N := Ng) (ps := [a]) (us := [.ref f]) (vs := [.ref f]) lk hcg Sg hr I1.env0 (hb s' [.ref f] I1.kIn rfl) (.cons rfl .nil) rfl fun hr' => ?_
    obtain ⟨t', ht', hq'⟩ := hG f c' s' H1 Q (fun E H' Q' => t E σ H' Q') (fun W pn xe E p1 p2 tk hW => pe_act3 (i := 0) I1 L hf hfn hfr hDg hDn hDr (fun s hs => hbind s _ _ _ _ _ _ _ _ hs) tk hW hr' (fun A outer s H hr2 => hbody A outer s H E f c' hr2) hNg hva hdd hcd) hco (h H1 eN T1)
    exact ⟨t', ht'.nox, hq'⟩
  refine wpAny_call (codeAny_mono rc fun r s2 hq => ?_)
  cases r with
  | error e => exact (show False from hq).elim
  | ok fl =>
    cases fl with
    | ret u => exact I1.after hq
    | next => exact False.elim hq
    | brk => exact False.elim hq
    | cont => exact False.elim hq
end
end TD

/-! What _law_kind asks: a caught error's class, how many are True. -/
namespace TD
open PySem PySem.Spec PyProof.Rows L2 LamX
theorem bt_VE : bootBuiltins "ValueError" = some (.type "ValueError") := by decide +kernel
def rCntB (K : PySem.W.Frag) : V → List V → Hp → VK → Prop := fun x xs H Q => ∃ (p : Addr) (bs : List Bool) (k : Bool), x = .ref p ∧ xs = [.bl k] ∧ SqL K H p (bs.map V.bl) ∧ Q (.int (bs.count k : Nat)) H
theorem bools_of_vals : ∀ {bs : List Bool} {its : List Value}, Vals (bs.map V.bl) its → its = bs.map Value.bool
  | [], _, h => by cases h; rfl
  | b :: bs, _, h => by
    cases h with
    | cons r h =>
      have e := bools_of_vals h
      have r : _ = Value.bool b := r
      rw [e, r]
      rfl
theorem count_bools (k : Bool) : ∀ bs : List Bool, (bs.map Value.bool).countP (isBoolOf k) = bs.count k
  | [] => rfl
  | b :: bs => by
    have ih := count_bools k bs
    rw [List.map_cons, List.countP_cons, List.count_cons, ih]
    cases b <;> cases k <;> rfl
theorem mt_countB {X : Cx} : MtR X "list.count" (rCntB X.K) := by
  intro pins s σ H x xs v us Q I rx rxs h
  obtain ⟨p, bs, k, rfl, rfl, hs, q⟩ := h
  cases rx
  obtain ⟨u, rfl, ru⟩ := rxs.one
  have ru : u = Value.bool k := ru
  subst ru
  obtain ⟨its, rv, ⟨⟨cls, dd, data, sl⟩, n, ho, hc, hdn, hd⟩, hlen⟩ := I.list hs
  simp only at hc hd
  subst hc hd
  have hi := bools_of_vals rv
  subst hi
  refine call_meets PySem.F.slot_list_count ⟨_, ho, rfl⟩ PySem.F.entry_list_count (PySem.F.args_list_count_2 _ _)
    (SeqAt.list_countAt p (bs.map Value.bool).toArray n dd sl (.bool k) (isBoolOf k)) ⟨ho, fun y hy => ?_, ?_⟩
  · have hy : y ∈ bs.map Value.bool := by simpa using hy
    obtain ⟨b, _, rfl⟩ := List.mem_map.mp hy
    exact SeqAt.EqAt.bool_bool b k
  · refine ⟨.int (bs.count k : Nat), H, I.tok _, ⟨s.toks, ?_⟩, q⟩
    show Value.int (((bs.map Value.bool).toArray.toList.countP (isBoolOf k) : Nat) : Int) s.toks = Value.int ((bs.count k : Nat) : Int) s.toks
    rw [show (bs.map Value.bool).toArray.toList = bs.map Value.bool from rfl, count_bools]
theorem PSs.case {X : Cx} {body : List Stmt} {ts : TS} (h : ∀ D σ H, ts D σ H → ∃ t, PSs X body t ∧ t D σ H) : PSs X body ts := ⟨fun pins s σ H D I q => by
  obtain ⟨t, p, q'⟩ := h D σ H q
  exact p.run pins s σ H D I q'⟩
theorem takes_len {X : Cx} {W : WX} (t : Takes X W) : Takes X (fun c d σ H => σ.length = X.N.length → W c d σ H) := fun u s' ⟨a, B, sI, pins, σ, H, cls, d, e, I, nb, up, sky, na, os, ag, w⟩ =>
  t u s' ⟨a, B, sI, pins, σ, H, cls, d, e, I, nb, up, sky, na, os, ag, w I.len⟩
theorem three_of {σ : L2.St} (h : σ.length = 3) : ∃ x y z, σ = [x, y, z] := by
  match σ, h with
  | [x, y, z], _ => exact ⟨x, y, z, rfl⟩
/-- a class of refusals: which of the six it is -/
structure KindAt (K : PySem.W.Frag) (CB C0 C1 C2 C3 C4 C5 D : Addr) (i : Nat) : Prop where
  c : ExcC K D
  b : PySem.W.exmOne K (.ref D) (.ref CB) = some true
  k0 : PySem.W.kitOne K (.ref D) (.ref C0) = some (i == 0)
  k1 : PySem.W.kitOne K (.ref D) (.ref C1) = some (i == 1)
  k2 : PySem.W.kitOne K (.ref D) (.ref C2) = some (i == 2)
  k3 : PySem.W.kitOne K (.ref D) (.ref C3) = some (i == 3)
  k4 : PySem.W.kitOne K (.ref D) (.ref C4) = some (i == 4)
  k5 : PySem.W.kitOne K (.ref D) (.ref C5) = some (i == 5)
  v : PySem.W.kitOne K (.ref D) (.type "ValueError") = some true
def kindName (i : Nat) : Str := if i = 0 then "NoBeat" else if i = 1 then "TooLong" else if i = 2 then "Ends" else if i = 3 then "BadStock" else if i = 4 then "NoWish" else "NoNote"
/-- what _law_kind makes of what it is handed -/
def TTKind (K : PySem.W.Frag) (CB C0 C1 C2 C3 C4 C5 : Addr) : (XK → Hp → VK → Prop) → Hp → VK → Prop := fun tl H Q =>
  tl (fun cls d H' => d = none ∧ ∃ (D : Addr) (i : Nat), i < 6 ∧ cls = .ref D ∧ KindAt K CB C0 C1 C2 C3 C4 C5 D i ∧ ∀ H'', Ex H' H'' → Q (.str (kindName i)) H'') H fun _ H' => Q (.str "") H'
/-- the classes of refusals, by their names -/
structure KindCs (mg : Str → Option Value) (CB C0 C1 C2 C3 C4 C5 : Addr) : Prop where
  v : mg "ValueError" = none
  b : mg "BeatError" = some (.ref CB)
  n0 : ∃ u, mg "NoBeat" = some u ∧ RelV (.ref C0) u
  n1 : ∃ u, mg "TooLong" = some u ∧ RelV (.ref C1) u
  n2 : ∃ u, mg "Ends" = some u ∧ RelV (.ref C2) u
  n3 : ∃ u, mg "BadStock" = some u ∧ RelV (.ref C3) u
  n4 : ∃ u, mg "NoWish" = some u ∧ RelV (.ref C4) u
  n5 : ∃ u, mg "NoNote" = some u ∧ RelV (.ref C5) u
end TD

/-! Caught errors, with or without a dict of their own: isinstance; a class's __init__ called by its name; calls of defs within a try. -/
namespace PySem.W
open PySem PySem.Spec PySem.Calls PyProof.Rows
section
variable {prog : Program} {w : World} {A : Around} {E : Value → Shared → Prop} {s : Shared} {K : Frag} {x D : Addr} {ox : Obj} {od : Option Obj}
theorem findObj_dataO {C : Addr} {name : Str} {a g : Value} (hc : (clsIn K C).isSome = true) (ha : findIn K (.ref C) name = some (some a)) (hg : specialIn K a "__get__" = some (some g)) (ht : takesIn K a = some true) : findObj K C od name = some (.bind g a) := by
  obtain ⟨cd, hc⟩ := Option.isSome_iff_exists.mp hc
  unfold findObj
  rw [hc, Option.bind_some, ha, Option.bind_some]
  simp [hg, ht]
theorem kin_classO {Q : Option Value → Shared → Prop} (hga : findIn K (.ref D) "__getattribute__" = some (some (.builtin "BaseException.__getattribute__"))) (hgt : findIn K (.ref D) "__getattr__" = some none) (hsub : subIn K (.ref D) (.type "BaseException") = some true)
    (hdct : hasDictIn K D = true) (ha : findIn K (.ref D) "__class__" = some (some (.builtin "object.__class__")))
    (hn : specialIn K (.builtin "object.__class__") "__get__" = some (some (.builtin "getset_descriptor.__get__"))) (htk : takesIn K (.builtin "object.__class__") = some true) (hm : mroIn K D (.type "object") = some true)
    (X : K.In s.heap) (I : InstAt s.heap x ox D od) (h : Q (some (.ref D)) { s with toks := s.toks + 1 }) : wpAny (model prog w) A (getAttr? (.ref x) "__class__") Q E s := by
  have hf : findObj K D od "__class__" = some (.bind (.builtin "getset_descriptor.__get__") (.builtin "object.__class__")) := findObj_dataO (by obtain ⟨cd, hc, _⟩ := any_some hdct; rw [hc]; rfl) ha hn htk
  obtain ⟨hp, g, d, t, os⟩ := s
  have L0 := I.type (M := model prog w)
  have L1 := looks_findIn (M := model prog w) X hga
  have L2 := looks_findIn (M := model prog w) X hgt
  have L3 := looks_find (M := model prog w) X I hf
  have sub : Looks (model prog w) hp (isInstance (.ref x) (.type "BaseException")) true := L0.andThen (looks_subIn X hsub)
  have hx0 : (false && onTheHeap (Value.builtin "BaseException.__getattribute__")) = false := rfl
  have hx2 : (Value.builtin "BaseException.__getattribute__" == Value.builtin "object.__getattribute__") = false := by decide +kernel
  have hx1 : (onTheHeap (Value.ref D) && Value.builtin "BaseException.__getattribute__" == Value.builtin "object.__getattribute__") = false := by rw [hx2]; rfl
  unfold getAttr? getAttrBy? getAttrBy
  refine wpAny_bind (wpAny_mkText (wpAny_bind (wpAny_attempt (wpAny_holding (wpAny_bind (L0.at (wpAny_bind (L1.at ?_))))))))
  show wpAny _ _ (if (onTheHeap (Value.ref D) && Value.builtin "BaseException.__getattribute__" == Value.builtin "object.__getattribute__") = true then _ else _) _ _ _
  rw [hx1, if_neg Bool.false_ne_true]
  unfold getAttrByItsOwn hookBefore
  refine wpAny_bind ?_
  rw [if_pos (show onTheHeap (Value.ref D) = true from rfl)]
  refine L2.at ?_
  refine wpAny_bind (wpAny_attempt (wpAny_holding ?_))
  unfold callGetattribute
  rw [hx0, if_neg Bool.false_ne_true]
  unfold boundAndCalled
  rw [PySem.F.excAttr_ValueError.ga.bind (.ref x)]
  refine wpAny_bind (wpAny_pure ?_)
  show wpAny _ _ (call (.builtin "BaseException.__getattribute__") [.ref x, .str "__class__" t]) _ _ _
  refine wpAny_call (codeAny_call_builtin PySem.F.excAttr_ValueError.ga.plain PySem.F.entry_bexc_ga ?_)
  refine @check_slot (model prog w) _ _ ⟨hp, g, d, t + 1, os⟩ "BaseException.__getattribute__" "BaseException" "__getattribute__" (.ref x) [.str "__class__" t] [] _ (by decide +kernel) (by decide +kernel) sub (PySem.F.args_bexc_ga (.ref x) (.str "__class__" t)) ?_
  unfold Builtin.«object.__getattribute__»
  refine wpAny_bind (wpAny_of_eq (a := ((Value.ref x : Value), [Value.str "__class__" t])) (by first | rfl | (simp only [slotArgs]; rfl)) ?_)
  refine wpAny_bind (wpAny_pure (wpAny_bind (L0.at (wpAny_bind (L3.at ?_)))))
  show wpAny _ _ (holding [Value.builtin "object.__class__"] (call (.builtin "getset_descriptor.__get__") [.builtin "object.__class__", .ref x, .ref D]) >>= ret) _ _ _
  refine wpAny_bind (wpAny_holding (wpAny_call (class_get (s := ⟨hp, g, d, t + 1, os⟩) (ox := ox) (od := od) X I hm ?_)))
  refine wpAny_pure ?_
  show wpAny _ _ (handedOut (.ref D)) _ _ _
  rw [handedOut_of (v := .ref D) rfl]
  first
    | exact wpAny_pure (wpAny_pure h)
    | exact wpAny_pure h
    | exact wpAny_pure (wpAny_bind (wpAny_pure (wpAny_pure h)))
theorem kitx_excO (hga : findIn K (.ref D) "__getattribute__" = some (some (.builtin "BaseException.__getattribute__"))) (hgt : findIn K (.ref D) "__getattr__" = some none) (hsub : subIn K (.ref D) (.type "BaseException") = some true) (hdct : hasDictIn K D = true)
    (ha : findIn K (.ref D) "__class__" = some (some (.builtin "object.__class__")))
    (hn : specialIn K (.builtin "object.__class__") "__get__" = some (some (.builtin "getset_descriptor.__get__"))) (htk : takesIn K (.builtin "object.__class__") = some true) (hm : mroIn K D (.type "object") = some true) :
    KitX K (.ref x) (.ref D) (fun h => InstAt h x ox D od) where
  ty := fun _ _ _ I => I.type
  it := fun _ _ X _ => by
    obtain ⟨cdD, hcD, _⟩ := any_some hdct
    unfold clsIn at hcD
    split at hcD
    · rename_i c' d' cd' sl' ho
      intro A' Q' E' s' k q
      unfold isType loadHead
      exact wpAny_bind (wpAny_loadPart (k _ _ (X _ _ ho)) (wpAny_pure q))
    · cases hcD
  ne := fun h tp dd its n sl X htp => by
    obtain ⟨cdD, hcD, _⟩ := any_some hdct
    refine Bool.eq_false_iff.mpr fun q => ?_
    have e : D = tp := Value.ref.inj (beq_iff_eq.mp q)
    subst e
    unfold clsIn at hcD
    split at hcD
    · rename_i c' d' cd' sl' ho
      have z := (X _ _ ho).symm.trans htp
      cases z
    · cases hcD
  ca := fun X I k => kin_classO hga hgt hsub hdct ha hn htk hm X I k
end
end PySem.W
namespace TD
open PySem PySem.Spec PyProof.Rows L2
/-- the error's own dict, if it has one, stands there -/
def OdAt (H : Hp) (d : Option Addr) : Prop := ∀ dd, d = some dd → ∃ fs, H dd = some (.xd fs)
theorem inst_of {X : Cx} {pins : List (Addr × Obj)} {σ : L2.St} {H : Hp} {s : Shared} {a D : Addr} {d : Option Addr} {oe : Obj} {pn : List (Addr × Obj)} (I : Inv (X.suite a ((a, oe) :: pn)) pins σ H s) (hz : Zc (.ref D) d oe) (hf : ∃ vs, oe.data = .fields vs) (hd : OdAt H d) :
    ∃ od, PySem.W.InstAt s.heap a oe D od := by
  obtain ⟨hget, _⟩ := I.pin (a, oe) (List.mem_append.mpr (.inl List.mem_cons_self))
  obtain ⟨vs, hv⟩ := hf
  have hno : PySem.W.notCls oe = true := by unfold PySem.W.notCls; rw [hv] <;> rfl
  cases d with
  | none => exact ⟨none, hget, hz.1, hno, by rw [hz.2]; trivial⟩
  | some dd =>
    obtain ⟨fs, e⟩ := hd dd rfl
    obtain ⟨mA, hns, _⟩ := (show ObjOk X.prog X.w H s.heap dd (.xd fs) from I.hok dd _ e)
    obtain ⟨od, ho, _⟩ := lookIn_ns hns
    exact ⟨some od, hget, hz.1, hno, by rw [hz.2]; exact ho⟩
/-- isinstance(e, c) -/
def rIsO (K : PySem.W.Frag) (D a : Addr) (d : Option Addr) : List V → Hp → VK → Prop := fun xs H Q => ∃ (c : V) (cv : Value) (b : Bool), xs = [.ref a, c] ∧ (∀ u, RelV c u → u = cv) ∧ OdAt H d ∧ PySem.W.kitOne K (.ref D) cv = some b ∧ Q (.bl b) H
theorem call_isO {X : Cx} {a D : Addr} {d : Option Addr} {oe : Obj} {pn : List (Addr × Obj)} (C : ExcC X.K D) (hz : Zc (.ref D) d oe) (hf : ∃ vs, oe.data = .fields vs) : CallR (X.suite a ((a, oe) :: pn)) (.builtin "isinstance") (rIsO X.K D a d) := by
  intro pins s σ H xs us Q I r h
  obtain ⟨c, cv, b, rfl, hcv, hd, e, q⟩ := h
  cases r with
  | cons rx rr =>
    cases rr with
    | cons rt rr =>
      cases rr
      cases rx
      have ec := hcv _ rt
      subst ec
      obtain ⟨od, J⟩ := inst_of I hz hf hd
      exact PySem.W.kia_one (PySem.W.kitx_excO C.hg C.hk C.hs C.hd C.ha C.hn C.ht C.hm) I.kIn J e (fun z => nomatch z) fun tk => ⟨.bl b, H, I.kept (t' := tk) fun _ _ z => z, rfl, q⟩
/-- isinstance(e, (C, ..)), own classes -/
def rIsOT (K : PySem.W.Frag) (D a : Addr) (d : Option Addr) : List V → Hp → VK → Prop := fun xs H Q => ∃ (tp : Addr) (Cs : List Addr) (b : Bool), xs = [.ref a, .ref tp] ∧ H tp = some (.tup (Cs.map V.ref)) ∧ OdAt H d ∧ PySem.W.kitAny K (.ref D) (Cs.map Value.ref) = some b ∧ Q (.bl b) H
theorem refs_vals : ∀ {Cs : List Addr} {its : List Value}, Vals (Cs.map V.ref) its → its = Cs.map Value.ref
  | [], _, h => by cases h; rfl
  | c :: cs, _, h => by
    cases h with
    | cons r h =>
      have e := refs_vals h
      have r : _ = Value.ref c := r
      rw [e, r]
      rfl
theorem call_isOT {X : Cx} {a D : Addr} {d : Option Addr} {oe : Obj} {pn : List (Addr × Obj)} (C : ExcC X.K D) (hz : Zc (.ref D) d oe) (hf : ∃ vs, oe.data = .fields vs) : CallR (X.suite a ((a, oe) :: pn)) (.builtin "isinstance") (rIsOT X.K D a d) := by
  intro pins s σ H xs us Q I r h
  obtain ⟨tp, Cs, b, rfl, ht, hd, e, q⟩ := h
  obtain ⟨u1, u2, rfl, r1, r2⟩ := vals2 r
  cases (show u2 = Value.ref tp from r2)
  cases (show u1 = Value.ref a from r1)
  obtain ⟨od, J⟩ := inst_of I hz hf hd
  obtain ⟨_, its, rv, o, h1, h2, n, h3⟩ := (show ObjOk X.prog X.w H s.heap tp (.tup (Cs.map V.ref)) from I.hok tp _ ht)
  have e3 := refs_vals rv
  subst e3
  obtain ⟨oc, od2, dt, sl⟩ := o
  simp only at h2 h3
  subst h2 h3
  exact PySem.W.kia_tup (PySem.W.kitx_excO C.hg C.hk C.hs C.hd C.ha C.hn C.ht C.hm) I.kIn J h1 e (fun z => nomatch z) fun tk => ⟨.bl b, H, I.kept (t' := tk) fun _ _ z => z, rfl, q⟩
/-- what of the text a class must have whose __init__ is called by its name -/
structure InitC (K : PySem.W.Frag) (CB : Addr) : Prop where
  rd : PySem.W.readsIn K CB (.type "type") = true
  ga : PySem.W.specialIn K (.ref CB) "__getattribute__" = some (some (.builtin "type.__getattribute__"))
  at_ : PySem.W.findCls K (.ref CB) (.type "type") "__init__" = some (.val (.builtin "ValueError.__init__"))
theorem handed_init : PySem.W.handedIn (.builtin "ValueError.__init__") = true := by decide +kernel
theorem pe_cinit {X : Cx} {CB : Addr} {x : Str} {e : Expr} {es : List Expr} {ta : TA} {p1 p2 pos : Pos} {pl : PySem.Sem Bool} (hg : Gl X x) (hm : X.mg x = some (.ref CB)) (T : InitC X.K CB) (ha : PA X (e :: es) ta) (hdb : (x == ("__debug__" : Str)) = false := by decide)
    (hc : eval (.Call (.Attribute (.Name x p1) "__init__" p2) (e :: es) [] pos) X.env = (do
      let ov ← eval (.Name x p1) X.env
      standAt p2.atName
      let (f, first) ← holding [ov] (getMethod ov "__init__" pl)
      callWith pos f first (backTo pos (starEach (e :: es) X.env)) (backToKw pos (keywordEach [] X.env))) := by rfl)
    (he : starEach (e :: es) X.env = (false, eval e X.env) :: starEach es X.env := by rfl) (hpl : (backTo pos (starEach es X.env)).any (·.1) = false := by rfl) :
    PE X (.Call (.Attribute (.Name x p1) "__init__" p2) (e :: es) [] pos) (tVeI X.K ta) := by
  refine ⟨fun pins s σ H Q I h => ?_⟩
  refine PySem.W.methodCall_KW (ld_glob I hg hm ?_ hdb) hc
  refine PySem.W.method_cls I.kIn T.ga (PySem.W.cls_value I.kIn T.rd T.at_ handed_init ?_)
  show wpAny _ _ (callWith pos (Value.builtin "ValueError.__init__") [] (backTo pos (starEach (e :: es) X.env)) []) _ _ _
  refine PyProof.Rows.callWith_method1 (thn (ha.run pos pins _ σ H _ (I.tok _) h) fun us s1 ⟨vs, H1, I1, r1, a, C, ws, ev, hl, T, ea, q⟩ => ?_) he hpl
  subst ev
  cases r1 with
  | @cons _ u0 _ ur ra rw' =>
    obtain rfl : u0 = Value.ref a := ra
    have hlen : ur.length ≤ sizeLine := by
      rw [← Paired.length rw', sizeLine_eq]
      omega
    exact oinit_ok T I1 ea hlen fun s' J => ⟨.non, H1, J, rfl, q⟩
/-- a def called within a try -/
theorem pe_dS {X : Cx} {j k : Nat} {x : Str} {sp : Sp} {E : L2.St → XK} {p pos : Pos} {e : Expr} {es : List Expr} {t : TA} (c : Dn X.prog X.w X.K X.mg X.base k x sp) (hr : Room j X.A) (hk : k ≤ j) (hx : ∀ σ, PassesAt (L2.CX X.prog X.w) X σ (E σ)) (hg : Gl X x) (ha : PA X (e :: es) t)
    (hdb : (x == ("__debug__" : Str)) = false := by decide) (he : starEach (e :: es) X.env = (false, eval e X.env) :: starEach es X.env := by rfl) (hpl : (backTo pos (starEach es X.env)).any (·.1) = false := by rfl) :
    PE X (.Call (.Name x p) (e :: es) [] pos) (tCallS sp E t) := by
  obtain ⟨f, fd, ps, F, hm, hk', hb⟩ := c.ex
  exact pe_callS F (hr.mono hk) hg hm hk' hb hx ha hdb he hpl
end TD

/-! Beats as texts (lists of code points): what is written, what a reader makes of a text. -/
namespace TD
open PySem PySem.Spec PyProof.Rows L2 TL
def isFig (c : Nat) : Bool := decide (48 ≤ c) && decide (c ≤ 57)
def isLet (c : Nat) : Bool := decide (97 ≤ c) && decide (c ≤ 122)
/-- a number's figures -/
def figs (n : Nat) : List Nat := if n < 10 then [48 + n] else figs (n / 10) ++ [48 + n % 10]
decreasing_by exact Nat.div_lt_self (by omega) (by decide)
def valOf (w : List Nat) : Nat := w.foldl (fun a c => a * 10 + (c - 48)) 0
/-! ### the reader: a text, a place -/
def skipR (T : List Nat) (c p : Nat) : Option Nat := if (T.drop p).take 1 = [c] then some (p + 1) else none
def wordR (T : List Nat) (ok : Nat → Bool) (p : Nat) : List Nat := (T.drop p).takeWhile ok
def goodNum (w : List Nat) : Bool := decide (1 ≤ w.length) && decide (w.length ≤ 4) && (decide (w = [48]) || decide (w.headD 0 ≠ 48))
def numR (T : List Nat) (p : Nat) : Option (Nat × Nat) := (skipR T 32 p).bind fun p1 => if goodNum (wordR T isFig p1) then some (valOf (wordR T isFig p1), p1 + (wordR T isFig p1).length) else none
theorem drop_app {pre r : List Nat} : (pre ++ r).drop pre.length = r := by simp
theorem skip_app {pre r : List Nat} {c : Nat} : skipR (pre ++ c :: r) c pre.length = some (pre.length + 1) := by
  unfold skipR
  rw [drop_app]
  simp
theorem word_app {pre w r : List Nat} {ok : Nat → Bool} (h : ∀ c ∈ w, ok c = true) (hr : ∀ c, r.head? = some c → ok c = false) : wordR (pre ++ (w ++ r)) ok pre.length = w := by
  unfold wordR
  rw [drop_app]
  induction w with
  | nil =>
    cases r with
    | nil => rfl
    | cons c r =>
      show (c :: r).takeWhile ok = []
      rw [List.takeWhile_cons, if_neg (by rw [hr c rfl]; decide)]
  | cons c w ih =>
    show (c :: (w ++ r)).takeWhile ok = c :: w
    rw [List.takeWhile_cons, if_pos (h c List.mem_cons_self), ih fun x hx => h x (List.mem_cons_of_mem _ hx)]
/-! ### figures -/
theorem figs_all (n : Nat) : (∀ c ∈ figs n, isFig c = true) ∧ figs n ≠ [] ∧ valOf (figs n) = n ∧ (n ≠ 0 → (figs n).headD 0 ≠ 48) := by
  induction n using Nat.strongRecOn with
  | ind n ih =>
    unfold figs
    by_cases h : n < 10
    · rw [if_pos h]
      refine ⟨fun c hc => ?_, fun z => (nomatch z), ?_, fun hn => ?_⟩
      · rw [List.mem_singleton.mp hc]
        unfold isFig
        rw [decide_eq_true (by omega), decide_eq_true (by omega)]
        rfl
      · show 0 * 10 + (48 + n - 48) = n
        omega
      · show 48 + n ≠ 48
        omega
    · rw [if_neg h]
      obtain ⟨h1, h2, h3, h4⟩ := ih (n / 10) (Nat.div_lt_self (by omega) (by decide))
      refine ⟨fun c hc => ?_, fun z => h2 (List.append_eq_nil_iff.mp z).1, ?_, fun _ => ?_⟩
      · rcases List.mem_append.mp hc with hc | hc
        · exact h1 c hc
        · rw [List.mem_singleton.mp hc]
          unfold isFig
          rw [decide_eq_true (by omega), decide_eq_true (by omega)]
          rfl
      · unfold valOf at h3 ⊢
        rw [List.foldl_append, h3]
        show n / 10 * 10 + (48 + n % 10 - 48) = n
        omega
      · have := h4 (by omega)
        cases hf : figs (n / 10) with
        | nil => exact absurd hf h2
        | cons a r =>
          rw [hf] at this
          exact this
theorem figs_len {n : Nat} (h : n ≤ 9999) : (figs n).length ≤ 4 := by
  have s1 : ∀ m, m < 10 → (figs m).length = 1 := fun m hm => by unfold figs; rw [if_pos hm]; rfl
  have st : ∀ m, 10 ≤ m → (figs m).length = (figs (m / 10)).length + 1 := fun m hm => by
    conv => lhs; unfold figs
    rw [if_neg (by omega), List.length_append]
    rfl
  by_cases a : n < 10
  · rw [s1 n a]; decide
  rw [st n (by omega)]
  by_cases b : n / 10 < 10
  · rw [s1 _ b]; decide
  rw [st _ (by omega)]
  by_cases c : n / 10 / 10 < 10
  · rw [s1 _ c]; decide
  rw [st _ (by omega), s1 _ (by omega)]
  decide
theorem good_figs {n : Nat} (h : n ≤ 9999) : goodNum (figs n) = true := by
  obtain ⟨_, h2, _, h4⟩ := figs_all n
  have h1 : 1 ≤ (figs n).length := List.length_pos_iff.mpr h2
  unfold goodNum
  rw [decide_eq_true h1, decide_eq_true (figs_len h)]
  by_cases h0 : n = 0
  · subst h0
    have : figs 0 = [48] := by unfold figs; rfl
    rw [this]
    rfl
  · rw [decide_eq_true (h4 h0)]
    simp
theorem num_app {pre r : List Nat} {n : Nat} (h : n ≤ 9999) (hr : ∀ c, r.head? = some c → isFig c = false) : numR (pre ++ 32 :: (figs n ++ r)) pre.length = some (n, pre.length + 1 + (figs n).length) := by
  obtain ⟨h1, _, h3, _⟩ := figs_all n
  have e : wordR (pre ++ 32 :: (figs n ++ r)) isFig (pre.length + 1) = figs n := by
    have := word_app (pre := pre ++ [32]) (r := r) h1 hr
    simpa using this
  unfold numR
  rw [skip_app]
  show (if goodNum (wordR (pre ++ 32 :: (figs n ++ r)) isFig (pre.length + 1)) = true then _ else none) = _
  rw [e, if_pos (good_figs h), h3]
/-! ### a beat's text -/
def chs (x : String) : List Nat := x.toList.map Char.toNat
def Two.chs : Two → List Nat
  | .either => TD.chs "either"
  | .both => TD.chs "both"
  | .but => TD.chs "but"
def noteL : Beat → List Nat
  | .source => chs "source"
  | .every n k b => 40 :: (chs "every" ++ 32 :: (figs n ++ 32 :: (figs k ++ 32 :: (noteL b ++ [41]))))
  | .gate bits b => 40 :: (chs "gate" ++ 32 :: (bits.map bitC ++ 32 :: (noteL b ++ [41])))
  | .later m b => 40 :: (chs "later" ++ 32 :: (figs m ++ 32 :: (noteL b ++ [41])))
  | .two w a b => 40 :: (w.chs ++ 32 :: (noteL a ++ 32 :: (noteL b ++ [41])))
  | .led a many b first => 40 :: (chs "led" ++ 32 :: (noteL a ++ 32 :: (figs many ++ 32 :: (noteL b ++ 32 :: (figs first ++ [41])))))
/-- what follows a beat's text is no letter, no figure -/
def Ends1 (r : List Nat) : Prop := ∀ c, r.head? = some c → isLet c = false ∧ isFig c = false
theorem ends_blank {r : List Nat} : Ends1 (32 :: r) := fun c h => by cases h; decide
theorem ends_close {r : List Nat} : Ends1 (41 :: r) := fun c h => by cases h; decide
theorem word_let {x : List Nat} (h : x.all isLet = true) : ∀ c ∈ x, isLet c = true := List.all_eq_true.mp h
theorem bits_fig (bits : List Bool) : ∀ c ∈ bits.map bitC, isFig c = true := fun c hc => by
  obtain ⟨b, _, rfl⟩ := List.mem_map.mp hc
  cases b <;> decide
theorem note_open : ∀ b : Beat, b = .source ∨ ∃ r, noteL b = 40 :: r
  | .source => .inl rfl
  | .every _ _ _ => .inr ⟨_, rfl⟩
  | .gate _ _ => .inr ⟨_, rfl⟩
  | .later _ _ => .inr ⟨_, rfl⟩
  | .two _ _ _ => .inr ⟨_, rfl⟩
  | .led _ _ _ _ => .inr ⟨_, rfl⟩
theorem two_let (w : Two) : w.chs.all isLet = true := by cases w <;> decide +kernel
/-! ### a beat, read -/
abbrev Got := Option (PyData × Nat × Nat)
def innerR (T : List Nat) (rd : Nat → Nat → Got) (p m : Nat) : Got := (skipR T 32 p).bind fun p1 => rd p1 m
def signsR (T : List Nat) (p : Nat) : Option (List Nat × Nat) := (skipR T 32 p).map fun p1 => (wordR T isFig p1, p1 + (wordR T isFig p1).length)
def twoOf (w : List Nat) : Option Two := if w = Two.chs .either then some .either else if w = Two.chs .both then some .both else if w = Two.chs .but then some .but else none
def partsR (T : List Nat) (rd : Nat → Nat → Got) (w : List Nat) (p m : Nat) : Got :=
  if w = chs "every" then (numR T p).bind fun x => (numR T x.2).bind fun y => (innerR T rd y.2 m).map fun z => (.tuple [.str "every", .int (x.1 : Int), .int (y.1 : Int), z.1], z.2)
  else if w = chs "gate" then (signsR T p).bind fun x => (innerR T rd x.2 m).map fun z => (.tuple [.str "gate", .str ⟨x.1.toArray⟩, z.1], z.2)
  else if w = chs "later" then (numR T p).bind fun x => (innerR T rd x.2 m).map fun z => (.tuple [.str "later", .int (x.1 : Int), z.1], z.2)
  else if w = chs "led" then (innerR T rd p m).bind fun x => (numR T x.2.1).bind fun y => (innerR T rd y.2 x.2.2).bind fun z => (numR T z.2.1).map fun u => (.tuple [.str "led", x.1, .int (y.1 : Int), z.1, .int (u.1 : Int)], u.2, z.2.2)
  else (twoOf w).bind fun v => (innerR T rd p m).bind fun x => (innerR T rd x.2.1 x.2.2).map fun z => (.tuple [.str v.word, x.1, z.1], z.2)
def beatR : Nat → List Nat → Nat → Nat → Got
  | 0, _, _, _ => none
  | k + 1, T, p, m => if 30 < m + 1 then none else
    if (T.drop p).take 1 = [40] then
      (partsR T (fun p m => beatR k T p m) (wordR T isLet (p + 1)) (p + 1 + (wordR T isLet (p + 1)).length) (m + 1)).bind fun x => (skipR T 41 x.2.1).map fun q => (x.1, q, x.2.2)
    else if wordR T isLet p = chs "source" then some (.tuple [.str "source"], p + 6, m + 1) else none
/-- what is due of a beat's text at a place -/
def dueR (b : Beat) (p m : Nat) : Got := if m + b.size ≤ 30 then some (b.data, p + (noteL b).length, m + b.size) else none
theorem inner_app {T pre r : List Nat} {b : Beat} {rd : Nat → Nat → Got} {m : Nat} (hT : T = pre ++ 32 :: (noteL b ++ r)) (h : rd (pre.length + 1) m = dueR b (pre.length + 1) m) : innerR T rd pre.length m = dueR b (pre.length + 1) m := by
  unfold innerR
  rw [hT, skip_app]
  exact h
theorem source_read {k m : Nat} {pre r : List Nat} (hr : Ends1 r) (hk : 1 ≤ k) : beatR k (pre ++ (noteL .source ++ r)) pre.length m = dueR .source pre.length m := by
  obtain ⟨k, rfl⟩ : ∃ k', k = k' + 1 := ⟨k - 1, by omega⟩
  have h1 : ((pre ++ (noteL .source ++ r)).drop pre.length).take 1 ≠ [40] := by
    rw [drop_app]
    show (115 :: _ : List Nat).take 1 ≠ [40]
    simp
  have h2 : wordR (pre ++ (noteL .source ++ r)) isLet pre.length = chs "source" := word_app (word_let (by decide +kernel)) fun c hc => (hr c hc).1
  unfold beatR dueR
  show (if 30 < m + 1 then none else _) = if m + 1 ≤ 30 then _ else none
  by_cases h : m + 1 ≤ 30
  · rw [if_neg (by omega), if_neg h1, if_pos h2, if_pos h]
    rfl
  · rw [if_pos (by omega), if_neg h]
/-- an opened text: its word, its parts, its close -/
theorem open_read {k m : Nat} {T pre w body r : List Nat} {d : PyData} {sz : Nat} (hT : T = pre ++ (40 :: (w ++ (32 :: body ++ (41 :: r))))) (hw : w.all isLet = true)
    (hp : m + 1 ≤ 30 → partsR T (fun p m => beatR k T p m) w (pre.length + 1 + w.length) (m + 1) = if m + sz ≤ 30 then some (d, pre.length + 1 + w.length + 1 + body.length, m + sz) else none) (hs : 1 ≤ sz) :
    beatR (k + 1) T pre.length m = if m + sz ≤ 30 then some (d, pre.length + (1 + w.length + 1 + body.length + 1), m + sz) else none := by
  have h1 : (T.drop pre.length).take 1 = [40] := by
    rw [hT, drop_app]
    rfl
  have h2 : wordR T isLet (pre.length + 1) = w := by
    have := word_app (pre := pre ++ [40]) (w := w) (r := 32 :: body ++ (41 :: r)) (word_let hw) fun c hc => by cases hc; decide
    rw [hT]
    simpa using this
  have h3 : skipR T 41 (pre.length + 1 + w.length + 1 + body.length) = some (pre.length + 1 + w.length + 1 + body.length + 1) := by
    have := skip_app (pre := pre ++ (40 :: (w ++ (32 :: body)))) (c := 41) (r := r)
    have e : (pre ++ (40 :: (w ++ (32 :: body)))).length = pre.length + 1 + w.length + 1 + body.length := by
      simp only [List.length_append, List.length_cons]
      omega
    rw [e] at this
    rw [hT]
    simpa using this
  unfold beatR
  rw [if_pos h1, h2]
  by_cases h : m + 1 ≤ 30
  · rw [if_neg (by omega), hp h]
    by_cases h' : m + sz ≤ 30
    · rw [if_pos h', if_pos h']
      show (skipR T 41 (pre.length + 1 + w.length + 1 + body.length)).map _ = _
      rw [h3]
      show some (d, pre.length + 1 + w.length + 1 + body.length + 1, m + sz) = _
      rw [show pre.length + 1 + w.length + 1 + body.length + 1 = pre.length + (1 + w.length + 1 + body.length + 1) by omega]
    · rw [if_neg h', if_neg h']
      rfl
  · rw [if_pos (by omega), if_neg (by omega)]
theorem num_at {T pre r : List Nat} {n p : Nat} (hT : T = pre ++ 32 :: (figs n ++ r)) (hp : p = pre.length) (h : n ≤ 9999) (hr : ∀ c, r.head? = some c → isFig c = false) : numR T p = some (n, p + 1 + (figs n).length) := by
  subst hT hp
  exact num_app h hr
theorem inner_at {T pre r : List Nat} {b : Beat} {rd : Nat → Nat → Got} {m p : Nat} (hT : T = pre ++ 32 :: (noteL b ++ r)) (hp : p = pre.length) (h : rd (p + 1) m = dueR b (p + 1) m) : innerR T rd p m = dueR b (p + 1) m := by
  subst hp
  exact inner_app hT h
theorem fig_blank {r : List Nat} : ∀ c, (32 :: r).head? = some c → isFig c = false := fun c h => by cases h; decide
theorem fig_close {r : List Nat} : ∀ c, (41 :: r).head? = some c → isFig c = false := fun c h => by cases h; decide
/-- what the reader makes of a beat's text -/
def Reads (b : Beat) : Prop := ∀ (k m : Nat) (T pre r : List Nat), T = pre ++ (noteL b ++ r) → Ends1 r → 31 ≤ m + k → m ≤ 30 → beatR k T pre.length m = dueR b pre.length m
theorem reads_at {b : Beat} (R : Reads b) {k m p : Nat} {T pre r : List Nat} (hT : T = pre ++ (noteL b ++ r)) (hp : p = pre.length) (hr : Ends1 r) (hk : 31 ≤ m + k) (hm : m ≤ 30) : beatR k T p m = dueR b p m := by
  subst hp
  exact R k m T pre r hT hr hk hm
theorem reads_source : Reads .source := fun k m T pre r hT hr hk hm => by
  subst hT
  exact source_read hr (by omega)
theorem size_pos : ∀ b : Beat, 1 ≤ b.size := fun b => by cases b <;> simp [Beat.size]
theorem reads_later {n : Nat} {b : Beat} (hn : n ≤ 9999) (R : Reads b) : Reads (.later n b) := fun k m T pre r hT hr hk hm => by
  obtain ⟨k, rfl⟩ : ∃ k', k = k' + 1 := ⟨k - 1, by omega⟩
  have e : T = pre ++ (40 :: (chs "later" ++ (32 :: (figs n ++ 32 :: noteL b) ++ (41 :: r)))) := by rw [hT]; simp [noteL]
  have main := open_read (k := k) (m := m) (d := (Beat.later n b).data) (sz := (Beat.later n b).size) e (by decide +kernel) (fun h => ?_) (size_pos _)
  · rw [main]
    unfold dueR
    have : (noteL (.later n b)).length = 1 + (chs "later").length + 1 + (figs n ++ 32 :: noteL b).length + 1 := by
      simp only [noteL, List.length_cons, List.length_append, List.length_nil]
      omega
    rw [this]
  · have q1 : numR T (pre.length + 1 + (chs "later").length) = some (n, pre.length + 1 + (chs "later").length + 1 + (figs n).length) :=
      num_at (pre := pre ++ 40 :: chs "later") (r := 32 :: (noteL b ++ 41 :: r)) (by rw [e]; simp) (by simp only [List.length_append, List.length_cons]; omega) hn fig_blank
    have q2 : innerR T (fun p m => beatR k T p m) (pre.length + 1 + (chs "later").length + 1 + (figs n).length) (m + 1) = dueR b (pre.length + 1 + (chs "later").length + 1 + (figs n).length + 1) (m + 1) :=
      inner_at (pre := pre ++ 40 :: (chs "later" ++ 32 :: figs n)) (r := 41 :: r) (by rw [e]; simp) (by simp only [List.length_append, List.length_cons]; omega)
        (reads_at R (pre := pre ++ 40 :: (chs "later" ++ 32 :: (figs n ++ [32]))) (r := 41 :: r) (by rw [e]; simp) (by simp only [List.length_append, List.length_cons, List.length_nil]; omega) ends_close (by omega) h)
    unfold partsR
    rw [if_neg (by decide +kernel), if_neg (by decide +kernel), if_pos rfl, q1]
    show (innerR T (fun p m => beatR k T p m) (pre.length + 1 + (chs "later").length + 1 + (figs n).length) (m + 1)).map _ = _
    rw [q2]
    unfold dueR
    show _ = if m + (b.size + 1) ≤ 30 then _ else none
    by_cases c : m + 1 + b.size ≤ 30
    · rw [if_pos c, if_pos (by omega)]
      simp only [Option.map_some, Beat.data, Beat.size, List.length_append, List.length_cons, Option.some.injEq, Prod.mk.injEq, true_and]
      omega
    · rw [if_neg c, if_neg (by omega)]
      rfl
theorem signs_at {T pre r : List Nat} {bits : List Bool} {p : Nat} (hT : T = pre ++ 32 :: (bits.map bitC ++ r)) (hp : p = pre.length) (hr : ∀ c, r.head? = some c → isFig c = false) : signsR T p = some (bits.map bitC, p + 1 + bits.length) := by
  subst hT hp
  have e : wordR (pre ++ 32 :: (bits.map bitC ++ r)) isFig (pre.length + 1) = bits.map bitC := by
    have := word_app (pre := pre ++ [32]) (r := r) (bits_fig bits) hr
    simpa using this
  unfold signsR
  rw [skip_app]
  show some (wordR (pre ++ 32 :: (bits.map bitC ++ r)) isFig (pre.length + 1), _) = _
  rw [e, List.length_map]
theorem reads_gate {bits : List Bool} {b : Beat} (R : Reads b) : Reads (.gate bits b) := fun k m T pre r hT hr hk hm => by
  obtain ⟨k, rfl⟩ : ∃ k', k = k' + 1 := ⟨k - 1, by omega⟩
  have e : T = pre ++ (40 :: (chs "gate" ++ (32 :: (bits.map bitC ++ 32 :: noteL b) ++ (41 :: r)))) := by rw [hT]; simp [noteL]
  have main := open_read (k := k) (m := m) (d := (Beat.gate bits b).data) (sz := (Beat.gate bits b).size) e (by decide +kernel) (fun h => ?_) (size_pos _)
  · rw [main]
    unfold dueR
    have : (noteL (.gate bits b)).length = 1 + (chs "gate").length + 1 + (bits.map bitC ++ 32 :: noteL b).length + 1 := by
      simp only [noteL, List.length_cons, List.length_append, List.length_nil]
      omega
    rw [this]
  · have q1 : signsR T (pre.length + 1 + (chs "gate").length) = some (bits.map bitC, pre.length + 1 + (chs "gate").length + 1 + bits.length) :=
      signs_at (pre := pre ++ 40 :: chs "gate") (r := 32 :: (noteL b ++ 41 :: r)) (by rw [e]; simp) (by simp only [List.length_append, List.length_cons]; omega) fig_blank
    have q2 : innerR T (fun p m => beatR k T p m) (pre.length + 1 + (chs "gate").length + 1 + bits.length) (m + 1) = dueR b (pre.length + 1 + (chs "gate").length + 1 + bits.length + 1) (m + 1) :=
      inner_at (pre := pre ++ 40 :: (chs "gate" ++ 32 :: bits.map bitC)) (r := 41 :: r) (by rw [e]; simp) (by simp only [List.length_append, List.length_cons, List.length_map]; omega)
        (reads_at R (pre := pre ++ 40 :: (chs "gate" ++ 32 :: (bits.map bitC ++ [32]))) (r := 41 :: r) (by rw [e]; simp) (by simp only [List.length_append, List.length_cons, List.length_nil, List.length_map]; omega) ends_close (by omega) h)
    unfold partsR
    rw [if_neg (by decide +kernel), if_pos rfl, q1]
    show (innerR T (fun p m => beatR k T p m) (pre.length + 1 + (chs "gate").length + 1 + bits.length) (m + 1)).map _ = _
    rw [q2]
    unfold dueR
    show _ = if m + (b.size + 1) ≤ 30 then _ else none
    by_cases c : m + 1 + b.size ≤ 30
    · rw [if_pos c, if_pos (by omega)]
      simp only [Option.map_some, Beat.data, Beat.size, bitsStr, List.length_append, List.length_cons, List.length_map, Option.some.injEq, Prod.mk.injEq, true_and]
      omega
    · rw [if_neg c, if_neg (by omega)]
      rfl
theorem reads_every {n j : Nat} {b : Beat} (hn : n ≤ 9999) (hj : j ≤ 9999) (R : Reads b) : Reads (.every n j b) := fun k m T pre r hT hr hk hm => by
  obtain ⟨k, rfl⟩ : ∃ k', k = k' + 1 := ⟨k - 1, by omega⟩
  have e : T = pre ++ (40 :: (chs "every" ++ (32 :: (figs n ++ 32 :: (figs j ++ 32 :: noteL b)) ++ (41 :: r)))) := by rw [hT]; simp [noteL]
  have main := open_read (k := k) (m := m) (d := (Beat.every n j b).data) (sz := (Beat.every n j b).size) e (by decide +kernel) (fun h => ?_) (size_pos _)
  · rw [main]
    unfold dueR
    have : (noteL (.every n j b)).length = 1 + (chs "every").length + 1 + (figs n ++ 32 :: (figs j ++ 32 :: noteL b)).length + 1 := by
      simp only [noteL, List.length_cons, List.length_append, List.length_nil]
      omega
    rw [this]
  · have q1 : numR T (pre.length + 1 + (chs "every").length) = some (n, pre.length + 1 + (chs "every").length + 1 + (figs n).length) :=
      num_at (pre := pre ++ 40 :: chs "every") (r := 32 :: (figs j ++ 32 :: (noteL b ++ 41 :: r))) (by rw [e]; simp) (by simp only [List.length_append, List.length_cons]; omega) hn fig_blank
    have q2 : numR T (pre.length + 1 + (chs "every").length + 1 + (figs n).length) = some (j, pre.length + 1 + (chs "every").length + 1 + (figs n).length + 1 + (figs j).length) :=
      num_at (pre := pre ++ 40 :: (chs "every" ++ 32 :: figs n)) (r := 32 :: (noteL b ++ 41 :: r)) (by rw [e]; simp) (by simp only [List.length_append, List.length_cons]; omega) hj fig_blank
    have q3 : innerR T (fun p m => beatR k T p m) (pre.length + 1 + (chs "every").length + 1 + (figs n).length + 1 + (figs j).length) (m + 1) = dueR b (pre.length + 1 + (chs "every").length + 1 + (figs n).length + 1 + (figs j).length + 1) (m + 1) :=
      inner_at (pre := pre ++ 40 :: (chs "every" ++ 32 :: (figs n ++ 32 :: figs j))) (r := 41 :: r) (by rw [e]; simp) (by simp only [List.length_append, List.length_cons]; omega)
        (reads_at R (pre := pre ++ 40 :: (chs "every" ++ 32 :: (figs n ++ 32 :: (figs j ++ [32])))) (r := 41 :: r) (by rw [e]; simp) (by simp only [List.length_append, List.length_cons, List.length_nil]; omega) ends_close (by omega) h)
    unfold partsR
    rw [if_pos rfl, q1]
    show (numR T (pre.length + 1 + (chs "every").length + 1 + (figs n).length)).bind _ = _
    rw [q2]
    show (innerR T (fun p m => beatR k T p m) (pre.length + 1 + (chs "every").length + 1 + (figs n).length + 1 + (figs j).length) (m + 1)).map _ = _
    rw [q3]
    unfold dueR
    show _ = if m + (b.size + 1) ≤ 30 then _ else none
    by_cases c : m + 1 + b.size ≤ 30
    · rw [if_pos c, if_pos (by omega)]
      simp only [Option.map_some, Beat.data, Beat.size, List.length_append, List.length_cons, Option.some.injEq, Prod.mk.injEq, true_and]
      omega
    · rw [if_neg c, if_neg (by omega)]
      rfl
theorem twoOf_chs (w : Two) : twoOf w.chs = some w := by cases w <;> decide +kernel
theorem two_not (w : Two) : w.chs ≠ chs "every" ∧ w.chs ≠ chs "gate" ∧ w.chs ≠ chs "later" ∧ w.chs ≠ chs "led" := by cases w <;> decide +kernel
theorem reads_two {w : Two} {a b : Beat} (Ra : Reads a) (Rb : Reads b) : Reads (.two w a b) := fun k m T pre r hT hr hk hm => by
  obtain ⟨k, rfl⟩ : ∃ k', k = k' + 1 := ⟨k - 1, by omega⟩
  have e : T = pre ++ (40 :: (w.chs ++ (32 :: (noteL a ++ 32 :: noteL b) ++ (41 :: r)))) := by rw [hT]; simp [noteL]
  have hsz : (Beat.two w a b).size = a.size + b.size + 1 := rfl
  have main := open_read (k := k) (m := m) (d := (Beat.two w a b).data) (sz := (Beat.two w a b).size) e (two_let w) (fun h => ?_) (size_pos _)
  · rw [main]
    unfold dueR
    have : (noteL (.two w a b)).length = 1 + w.chs.length + 1 + (noteL a ++ 32 :: noteL b).length + 1 := by
      simp only [noteL, List.length_cons, List.length_append, List.length_nil]
      omega
    rw [this]
  · have q1 : innerR T (fun p m => beatR k T p m) (pre.length + 1 + w.chs.length) (m + 1) = dueR a (pre.length + 1 + w.chs.length + 1) (m + 1) :=
      inner_at (pre := pre ++ 40 :: w.chs) (r := 32 :: (noteL b ++ 41 :: r)) (by rw [e]; simp) (by simp only [List.length_append, List.length_cons]; omega)
        (reads_at Ra (pre := pre ++ 40 :: (w.chs ++ [32])) (r := 32 :: (noteL b ++ 41 :: r)) (by rw [e]; simp) (by simp only [List.length_append, List.length_cons, List.length_nil]; omega) ends_blank (by omega) h)
    obtain ⟨n1, n2, n3, n4⟩ := two_not w
    unfold partsR
    rw [if_neg n1, if_neg n2, if_neg n3, if_neg n4, twoOf_chs]
    show (innerR T (fun p m => beatR k T p m) (pre.length + 1 + w.chs.length) (m + 1)).bind _ = _
    rw [q1, hsz]
    by_cases c : m + 1 + a.size ≤ 30
    · have d1 : dueR a (pre.length + 1 + w.chs.length + 1) (m + 1) = some (a.data, pre.length + 1 + w.chs.length + 1 + (noteL a).length, m + 1 + a.size) := if_pos c
      rw [d1]
      have q2 : innerR T (fun p m => beatR k T p m) (pre.length + 1 + w.chs.length + 1 + (noteL a).length) (m + 1 + a.size) = dueR b (pre.length + 1 + w.chs.length + 1 + (noteL a).length + 1) (m + 1 + a.size) :=
        inner_at (pre := pre ++ 40 :: (w.chs ++ 32 :: noteL a)) (r := 41 :: r) (by rw [e]; simp) (by simp only [List.length_append, List.length_cons]; omega)
          (reads_at Rb (pre := pre ++ 40 :: (w.chs ++ 32 :: (noteL a ++ [32]))) (r := 41 :: r) (by rw [e]; simp) (by simp only [List.length_append, List.length_cons, List.length_nil]; omega) ends_close (by omega) c)
      show (innerR T (fun p m => beatR k T p m) (pre.length + 1 + w.chs.length + 1 + (noteL a).length) (m + 1 + a.size)).map _ = _
      rw [q2]
      unfold dueR
      by_cases c2 : m + 1 + a.size + b.size ≤ 30
      · rw [if_pos c2, if_pos (by omega)]
        simp only [Option.map_some, Beat.data, List.length_append, List.length_cons, Option.some.injEq, Prod.mk.injEq, true_and]
        omega
      · rw [if_neg c2, if_neg (by omega)]
        rfl
    · have d1 : dueR a (pre.length + 1 + w.chs.length + 1) (m + 1) = none := if_neg c
      rw [d1, if_neg (by omega)]
      rfl
theorem reads_led {a b : Beat} {many first : Nat} (h1 : many ≤ 9999) (h2 : first ≤ 9999) (Ra : Reads a) (Rb : Reads b) : Reads (.led a many b first) := fun k m T pre r hT hr hk hm => by
  obtain ⟨k, rfl⟩ : ∃ k', k = k' + 1 := ⟨k - 1, by omega⟩
  have e : T = pre ++ (40 :: (chs "led" ++ (32 :: (noteL a ++ 32 :: (figs many ++ 32 :: (noteL b ++ 32 :: figs first))) ++ (41 :: r)))) := by rw [hT]; simp [noteL]
  have hsz : (Beat.led a many b first).size = a.size + b.size + 1 := rfl
  have main := open_read (k := k) (m := m) (d := (Beat.led a many b first).data) (sz := (Beat.led a many b first).size) e (by decide +kernel) (fun h => ?_) (size_pos _)
  · rw [main]
    unfold dueR
    have : (noteL (.led a many b first)).length = 1 + (chs "led").length + 1 + (noteL a ++ 32 :: (figs many ++ 32 :: (noteL b ++ 32 :: figs first))).length + 1 := by
      simp only [noteL, List.length_cons, List.length_append, List.length_nil]
      omega
    rw [this]
  · generalize hA : pre.length + 1 + (chs "led").length = A
    have hA' : A = (pre ++ 40 :: chs "led").length := by simp only [List.length_append, List.length_cons]; omega
    have q1 : innerR T (fun p m => beatR k T p m) A (m + 1) = dueR a (A + 1) (m + 1) :=
      inner_at (pre := pre ++ 40 :: chs "led") (r := 32 :: (figs many ++ 32 :: (noteL b ++ 32 :: (figs first ++ 41 :: r)))) (by rw [e]; simp) hA'
        (reads_at Ra (pre := pre ++ 40 :: (chs "led" ++ [32])) (r := 32 :: (figs many ++ 32 :: (noteL b ++ 32 :: (figs first ++ 41 :: r)))) (by rw [e]; simp) (by simp only [List.length_append, List.length_cons, List.length_nil]; omega) ends_blank (by omega) h)
    unfold partsR
    rw [if_neg (by decide +kernel), if_neg (by decide +kernel), if_neg (by decide +kernel), if_pos rfl, q1, hsz]
    by_cases c : m + 1 + a.size ≤ 30
    · have d1 : dueR a (A + 1) (m + 1) = some (a.data, A + 1 + (noteL a).length, m + 1 + a.size) := if_pos c
      rw [d1]
      have q2 : numR T (A + 1 + (noteL a).length) = some (many, A + 1 + (noteL a).length + 1 + (figs many).length) :=
        num_at (pre := pre ++ 40 :: (chs "led" ++ 32 :: noteL a)) (r := 32 :: (noteL b ++ 32 :: (figs first ++ 41 :: r))) (by rw [e]; simp) (by simp only [List.length_append, List.length_cons]; omega) h1 fig_blank
      show (numR T (A + 1 + (noteL a).length)).bind _ = _
      rw [q2]
      have q3 : innerR T (fun p m => beatR k T p m) (A + 1 + (noteL a).length + 1 + (figs many).length) (m + 1 + a.size) = dueR b (A + 1 + (noteL a).length + 1 + (figs many).length + 1) (m + 1 + a.size) :=
        inner_at (pre := pre ++ 40 :: (chs "led" ++ 32 :: (noteL a ++ 32 :: figs many))) (r := 32 :: (figs first ++ 41 :: r)) (by rw [e]; simp) (by simp only [List.length_append, List.length_cons]; omega)
          (reads_at Rb (pre := pre ++ 40 :: (chs "led" ++ 32 :: (noteL a ++ 32 :: (figs many ++ [32])))) (r := 32 :: (figs first ++ 41 :: r)) (by rw [e]; simp) (by simp only [List.length_append, List.length_cons, List.length_nil]; omega) ends_blank (by omega) c)
      show (innerR T (fun p m => beatR k T p m) (A + 1 + (noteL a).length + 1 + (figs many).length) (m + 1 + a.size)).bind _ = _
      rw [q3]
      by_cases c2 : m + 1 + a.size + b.size ≤ 30
      · have d2 : dueR b (A + 1 + (noteL a).length + 1 + (figs many).length + 1) (m + 1 + a.size) = some (b.data, A + 1 + (noteL a).length + 1 + (figs many).length + 1 + (noteL b).length, m + 1 + a.size + b.size) := if_pos c2
        rw [d2]
        have q4 : numR T (A + 1 + (noteL a).length + 1 + (figs many).length + 1 + (noteL b).length) = some (first, A + 1 + (noteL a).length + 1 + (figs many).length + 1 + (noteL b).length + 1 + (figs first).length) :=
          num_at (pre := pre ++ 40 :: (chs "led" ++ 32 :: (noteL a ++ 32 :: (figs many ++ 32 :: noteL b)))) (r := 41 :: r) (by rw [e]; simp) (by simp only [List.length_append, List.length_cons]; omega) h2 fig_close
        show (numR T (A + 1 + (noteL a).length + 1 + (figs many).length + 1 + (noteL b).length)).map _ = _
        rw [q4, if_pos (by omega)]
        simp only [Option.map_some, Beat.data, List.length_append, List.length_cons, Option.some.injEq, Prod.mk.injEq, true_and]
        omega
      · have d2 : dueR b (A + 1 + (noteL a).length + 1 + (figs many).length + 1) (m + 1 + a.size) = none := if_neg c2
        rw [d2, if_neg (by omega)]
        rfl
    · have d1 : dueR a (A + 1) (m + 1) = none := if_neg c
      rw [d1, if_neg (by omega)]
      rfl
/-- the text of a beat whose numbers are right: told as the beat, or refused where there are more than thirty tuples -/
theorem reads_all : ∀ b : Beat, b.ok → Reads b
  | .source, _ => reads_source
  | .every n j b, h => reads_every (by have := h.2.1; omega) (by have := h.2.1; have := h.2.2.1; omega) (reads_all b h.2.2.2)
  | .gate bits b, h => reads_gate (reads_all b h.2.2)
  | .later m b, h => reads_later (by have := h.1; omega) (reads_all b h.2)
  | .two w a b, h => reads_two (reads_all a h.1) (reads_all b h.2)
  | .led a many b first, h => reads_led h.1 h.2.1 (reads_all a h.2.2.1) (reads_all b h.2.2.2)
end TD

/-! A beat's text as the program's texts: figures are those of str, words put together with blanks. -/
namespace TD
open PySem PySem.Spec PyProof.Rows L2 TL
theorem figs_num (n : Nat) : figs n = numL n := by
  induction n using Nat.strongRecOn with
  | ind n ih =>
    unfold figs
    by_cases h : n < 10
    · rw [if_pos h, numL_lt h]
    · rw [if_neg h, numL_step (by omega), ih (n / 10) (Nat.div_lt_self (by omega) (by decide))]
theorem tl_figs (n : Nat) : tl (Str.ofString (toString ((n : Nat) : Int))) = figs n := by rw [tl_num, figs_num]
def noteS (b : Beat) : Str := ⟨(noteL b).toArray⟩
theorem tl_note (b : Beat) : tl (noteS b) = noteL b := rfl
theorem note_len (b : Beat) : (noteS b).length = (noteL b).length := by simp [noteS, Str.length]
theorem str_ext {x y : Str} (h : tl x = tl y) : x = y := by
  cases x with
  | mk a => cases y with
    | mk b => exact congrArg Str.mk (Array.ext' h)
theorem source_note : noteS .source = Str.ofString "source" := str_ext (by rw [tl_note, tl_ofString]; rfl)
/-- how long a text may be -/
theorem note_short : ∀ b : Beat, b.ok → (noteL b).length ≤ 30 * b.size
  | .source, _ => by show (chs "source").length ≤ 30 * 1; decide +kernel
  | .every n j b, h => by
    have ih := note_short b h.2.2.2
    have f1 := figs_len (n := n) (by have := h.2.1; omega)
    have f2 := figs_len (n := j) (by have := h.2.1; have := h.2.2.1; omega)
    have w : (chs "every").length = 5 := by decide +kernel
    simp only [noteL, List.length_cons, List.length_append, List.length_nil, Beat.size, w]
    omega
  | .gate bits b, h => by
    have ih := note_short b h.2.2
    have hb := h.2.1
    have w : (chs "gate").length = 4 := by decide +kernel
    simp only [noteL, List.length_cons, List.length_append, List.length_nil, List.length_map, Beat.size, w]
    omega
  | .later m b, h => by
    have ih := note_short b h.2
    have f1 := figs_len (n := m) (by have := h.1; omega)
    have w : (chs "later").length = 5 := by decide +kernel
    simp only [noteL, List.length_cons, List.length_append, List.length_nil, Beat.size, w]
    omega
  | .two v a b, h => by
    have i1 := note_short a h.1
    have i2 := note_short b h.2
    have w : v.chs.length ≤ 6 := by cases v <;> decide +kernel
    simp only [noteL, List.length_cons, List.length_append, List.length_nil, Beat.size]
    omega
  | .led a many b first, h => by
    have i1 := note_short a h.2.2.1
    have i2 := note_short b h.2.2.2
    have f1 := figs_len h.1
    have f2 := figs_len h.2.1
    have w : (chs "led").length = 3 := by decide +kernel
    simp only [noteL, List.length_cons, List.length_append, List.length_nil, Beat.size, w]
    omega
end TD

/-! d.update(e) of two dicts; str of a number or a text; texts put together; walks over tuples. -/
namespace TD
open PySem PySem.Spec PyProof.Rows L2 TL
def rDUpd : V → List V → Hp → VK → Prop := fun x vs H Q => ∃ (d o : Addr) (kvs more : List (Key × V)), x = .ref d ∧ vs = [.ref o] ∧ H d = some (.dK kvs) ∧ H o = some (.dK more) ∧ d ≠ o ∧ kvs.length + more.length ≤ sizeLine ∧ Q .non (upd H d (.dK (mergeK kvs more)))
theorem mt_dupdate {X : Cx} : MtR X "dict.update" rDUpd := by
  intro pins s σ H x vs v us Q I rx rv h
  obtain ⟨d, o, kvs, more, rfl, rfl, hd, ho, hne, hz, q⟩ := h
  obtain rfl : v = Value.ref d := rx
  obtain ⟨u, rfl, ru⟩ := rv.one
  obtain rfl : u = Value.ref o := ru
  obtain ⟨_, sd, xs, rel, dd⟩ := dk_of I.hok hd
  obtain ⟨_, so, ys, rel2, dd2⟩ := dk_of I.hok ho
  refine call_meetsIn PySem.F.slot_dict_update dd.typeIs PySem.F.entry_dict_update (PySem.F.args_dict_update_2 _ _) (meets_dict_update (mixKind X.prog X.w) d o hne so)
    ⟨xs, ys, dd, dd2, by rw [← rel.length, ← rel2.length]; exact hz, fun h' d1 d2 hs => ⟨.non, _, ?_, rfl, q⟩⟩
  have there : ∃ z, h'.get? d = some z := let ⟨z, _, _, e, _⟩ := d1; ⟨z, e⟩
  exact d_write (t' := s.toks) I (by rw [hd]; exact True.intro) hs there (dk_new (Nat.le_trans (length_mergeK more kvs) hz) sd (rel2.merge rel) d1)
/-- str(x), x a number or a text -/
theorem call_strO {X : Cx} : CallR X (.type "str") (fun xs H Q => (∃ i, xs = [.int i] ∧ i.natAbs.log2 < 1920 ∧ Q (.str (toString i)) H) ∨ ∃ a, xs = [.str a] ∧ Q (.str a) H) :=
  fun pins s σ H xs us Q I r h => h.elim (fun h => call_str_int pins s σ H xs us Q I r h) (fun h => SkE.call_str_str pins s σ H xs us Q I r h)
theorem Goes.over {K : PySem.W.Frag} {H1 : Hp} {a : Addr} {xs : List V} (h : SqT K H1 a xs) : Goes (Itt K a) H1 xs.length fun i x _ => xs[i]? = some x :=
  { go := fun i H' hi e => ⟨xs, xs[i], e.sqT h, List.getElem?_eq_getElem hi⟩
    yld := fun i H' x H'' hi e ⟨eq, hx⟩ => by cases eq; exact ⟨Ex.refl _, hx xs (e.sqT h)⟩
    stop := fun H' e => ⟨xs, e.sqT h, Nat.le_refl _⟩ }
/-! ### a beat's parts: as data, as texts -/
def partsOfB : Beat → List (PyData × List Nat)
  | .source => [(.str "source", chs "source")]
  | .every n k b => [(.str "every", chs "every"), (.int (n : Int), figs n), (.int (k : Int), figs k), (b.data, noteL b)]
  | .gate bits b => [(.str "gate", chs "gate"), (.str (bitsStr bits), bits.map bitC), (b.data, noteL b)]
  | .later m b => [(.str "later", chs "later"), (.int (m : Int), figs m), (b.data, noteL b)]
  | .two w a b => [(.str w.word, w.chs), (a.data, noteL a), (b.data, noteL b)]
  | .led a many b first => [(.str "led", chs "led"), (a.data, noteL a), (.int (many : Int), figs many), (b.data, noteL b), (.int (first : Int), figs first)]
theorem data_parts (b : Beat) : b.data = .tuple ((partsOfB b).map (·.1)) := by cases b <;> rfl
theorem note_parts {b : Beat} (h : b ≠ .source) : noteL b = 40 :: (joinL [32] ((partsOfB b).map (·.2)) ++ [41]) := by
  cases b with
  | source => exact absurd rfl h
  | _ => simp [noteL, partsOfB, joinL]
/-- how many beats are around one another -/
def Beat.high : Beat → Nat
  | .source => 1
  | .every _ _ b | .gate _ b | .later _ b => b.high + 1
  | .two _ a b => max a.high b.high + 1
  | .led a _ b _ => max a.high b.high + 1
theorem high_pos : ∀ b : Beat, 1 ≤ b.high := fun b => by cases b <;> simp [Beat.high]
theorem high_size : ∀ b : Beat, b.high ≤ b.size
  | .source => Nat.le_refl 1
  | .every _ _ b => by have := high_size b; simp only [Beat.high, Beat.size]; omega
  | .gate _ b => by have := high_size b; simp only [Beat.high, Beat.size]; omega
  | .later _ b => by have := high_size b; simp only [Beat.high, Beat.size]; omega
  | .two _ a b => by have := high_size a; have := high_size b; have := size_pos a; have := size_pos b; simp only [Beat.high, Beat.size]; omega
  | .led a _ b _ => by have := high_size a; have := high_size b; have := size_pos a; have := size_pos b; simp only [Beat.high, Beat.size]; omega
theorem word_chs (w : Two) : tl w.word = w.chs := by cases w <;> exact tl_ofString _
/-- what stands in a beat: texts, numbers, beats -/
theorem part_sort {b : Beat} (h : b.ok) : ∀ x ∈ partsOfB b, (∃ s : Str, x = (.str s, tl s)) ∨ (∃ n : Nat, n ≤ 9999 ∧ x = (.int (n : Int), figs n)) ∨ ∃ c : Beat, c.ok ∧ c.high < b.high ∧ c.size < b.size ∧ x = (c.data, noteL c) := by
  have tx : ∀ s : String, ((.str (Str.ofString s), chs s) : PyData × List Nat) = (.str (Str.ofString s), tl (Str.ofString s)) := fun s => by rw [tl_ofString]; rfl
  cases b with
  | source =>
    intro x hx
    rw [List.mem_singleton.mp hx]
    exact .inl ⟨_, tx _⟩
  | every n k b =>
    obtain ⟨h1, h2, h3, h4⟩ := h
    intro x hx
    simp only [partsOfB, List.mem_cons, List.not_mem_nil, or_false] at hx
    rcases hx with rfl | rfl | rfl | rfl
    · exact .inl ⟨_, tx _⟩
    · exact .inr (.inl ⟨n, by omega, rfl⟩)
    · exact .inr (.inl ⟨k, by omega, rfl⟩)
    · exact .inr (.inr ⟨b, h4, by simp [Beat.high], by simp [Beat.size], rfl⟩)
  | gate bits b =>
    obtain ⟨h1, h2, h4⟩ := h
    intro x hx
    simp only [partsOfB, List.mem_cons, List.not_mem_nil, or_false] at hx
    rcases hx with rfl | rfl | rfl
    · exact .inl ⟨_, tx _⟩
    · exact .inl ⟨bitsStr bits, rfl⟩
    · exact .inr (.inr ⟨b, h4, by simp [Beat.high], by simp [Beat.size], rfl⟩)
  | later m b =>
    obtain ⟨h1, h4⟩ := h
    intro x hx
    simp only [partsOfB, List.mem_cons, List.not_mem_nil, or_false] at hx
    rcases hx with rfl | rfl | rfl
    · exact .inl ⟨_, tx _⟩
    · exact .inr (.inl ⟨m, by omega, rfl⟩)
    · exact .inr (.inr ⟨b, h4, by simp [Beat.high], by simp [Beat.size], rfl⟩)
  | two w a b =>
    obtain ⟨h1, h4⟩ := h
    intro x hx
    simp only [partsOfB, List.mem_cons, List.not_mem_nil, or_false] at hx
    rcases hx with rfl | rfl | rfl
    · exact .inl ⟨w.word, by rw [word_chs]⟩
    · exact .inr (.inr ⟨a, h1, by simp only [Beat.high]; omega, by simp only [Beat.size]; omega, rfl⟩)
    · exact .inr (.inr ⟨b, h4, by simp only [Beat.high]; omega, by simp only [Beat.size]; omega, rfl⟩)
  | led a many b first =>
    obtain ⟨h1, h2, h3, h4⟩ := h
    intro x hx
    simp only [partsOfB, List.mem_cons, List.not_mem_nil, or_false] at hx
    rcases hx with rfl | rfl | rfl | rfl | rfl
    · exact .inl ⟨_, tx _⟩
    · exact .inr (.inr ⟨a, h3, by simp only [Beat.high]; omega, by simp only [Beat.size]; omega, rfl⟩)
    · exact .inr (.inl ⟨many, h1, rfl⟩)
    · exact .inr (.inr ⟨b, h4, by simp only [Beat.high]; omega, by simp only [Beat.size]; omega, rfl⟩)
    · exact .inr (.inl ⟨first, h2, rfl⟩)
/-! ### texts put together -/
theorem sum_joinL (S : List Nat) : ∀ ls : List (List Nat), (ls.map List.length).sum ≤ (joinL S ls).length
  | [] => Nat.le_refl _
  | [p] => by simp [joinL]
  | p :: q :: r => by
    have ih := sum_joinL S (q :: r)
    simp only [List.map_cons, List.sum_cons, joinL, List.length_append] at ih ⊢
    omega
def strOfL (l : List Nat) : Str := ⟨l.toArray⟩
theorem tl_strOfL (l : List Nat) : tl (strOfL l) = l := rfl
theorem strOf_tl (s : Str) : strOfL (tl s) = s := mk_tl s
theorem strOf_fig (n : Nat) : Str.ofString (toString ((n : Nat) : Int)) = strOfL (figs n) := str_ext (by rw [tl_figs, tl_strOfL])
/-- the words of a beat's text, put together -/
theorem note_join {b : Beat} (h : b ≠ .source) : Str.ofString "(" ++ Txt.join (Str.ofString " ") ((partsOfB b).map fun x => strOfL x.2) ++ Str.ofString ")" = noteS b := by
  refine str_ext ?_
  rw [tl_append, tl_append, tl_note, note_parts h, join_eq, tl_join, List.map_map]
  rw [show tl (Str.ofString "(") = [40] by rw [tl_ofString]; rfl, show tl (Str.ofString " ") = [32] by rw [tl_ofString]; rfl, show tl (Str.ofString ")") = [41] by rw [tl_ofString]; rfl]
  rfl
theorem parts_sum {b : Beat} (h : b ≠ .source) : (((partsOfB b).map fun x => strOfL x.2).map (·.length)).sum ≤ (noteL b).length := by
  have h1 := sum_joinL [32] ((partsOfB b).map (·.2))
  have h2 := congrArg List.length (note_parts h)
  simp only [List.length_cons, List.length_append, List.length_nil] at h2
  rw [List.map_map] at h1 ⊢
  have e : (List.map ((fun x => x.length) ∘ fun x : PyData × List Nat => strOfL x.2) (partsOfB b)) = List.map (List.length ∘ fun x => x.2) (partsOfB b) := List.map_congr_left fun x _ => by simp [strOfL, Str.length]
  rw [e]
  omega
theorem parts_few (b : Beat) : (partsOfB b).length ≤ 5 ∧ 1 ≤ (partsOfB b).length := by cases b <;> simp [partsOfB]
theorem fold_str {s t : Str} : (s ++ t).length = s.length + t.length := by
  rw [len_tl, tl_append, List.length_append, ← len_tl, ← len_tl]
end TD

/-! The reader: an object of three attributes; its methods; what it cuts out of a text. -/
namespace TD
open PySem PySem.Spec PyProof.Rows L2 TL
/-- a method as its callers know it -/
structure Mn (P : Program) (w : World) (K : PySem.W.Frag) (mg : Str → Option Value) (base : Heap) (C : Addr) (k : Nat) (m : Str) (sp : Sp) : Prop where
  ex : ∃ (f : Addr) (fd : FuncData) (ps : List Str), FnOk P w K mg base (L2.CX P w) k f fd ps sp ∧ Meth K C m f ∧ L2.Binds K fd ps []
theorem Mn.of0 {P : Program} {w : World} {K : PySem.W.Frag} {mg : Str → Option Value} {base : Heap} {C : Addr} {k : Nat} {m : Str} {sp : Sp} {f : Addr} {fd : FuncData} {ps : List Str} (F : FnOk P w K mg base CX0 k f fd ps sp) (hm : Meth K C m f) (hb : L2.Binds K fd ps []) : Mn P w K mg base C k m sp := ⟨f, fd, ps, up F, hm, hb⟩
theorem Mn.of {P : Program} {w : World} {K : PySem.W.Frag} {mg : Str → Option Value} {base : Heap} {C : Addr} {k : Nat} {m : Str} {sp : Sp} {f : Addr} {fd : FuncData} {ps : List Str} (F : FnOk P w K mg base (L2.CX P w) k f fd ps sp) (hm : Meth K C m f) (hb : L2.Binds K fd ps []) : Mn P w K mg base C k m sp := ⟨f, fd, ps, F, hm, hb⟩
section
variable {X : Cx} {j k : Nat} {C : Addr} {m : Str} {sp : Sp} {E : XK} {apos pos : Pos} {o e : Expr} {es : List Expr} {ta : TE} {t : TA}
theorem pe_mn (c : Mn X.prog X.w X.K X.mg X.base C k m sp) (cl : Cls X.K C) (hr : Room j X.A) (hk : k ≤ j) (hx : Passes (L2.CX X.prog X.w) X E) (he : PE X o ta) (ha : PA X (e :: es) t) {pl : PySem.Sem Bool}
    (hst : starEach (e :: es) X.env = (false, eval e X.env) :: starEach es X.env := by rfl) (hpl : (backTo pos (starEach es X.env)).any (·.1) = false := by rfl)
    (ht : eval (.Call (.Attribute o m apos) (e :: es) [] pos) X.env = (do
      let ov ← eval o X.env
      standAt apos.atName
      let (f, first) ← holding [ov] (getMethod ov m pl)
      callWith pos f first (backTo pos (starEach (e :: es) X.env)) (backToKw pos (keywordEach [] X.env))) := by rfl) :
    PE X (.Call (.Attribute o m apos) (e :: es) [] pos) (tMeth C m sp [] E ta t) := by
  obtain ⟨f, fd, ps, F, hm, hb⟩ := c.ex
  exact pe_meth he cl hm F (hr.mono hk) hb .nil hx ha hst hpl ht
theorem pe_mn0 (c : Mn X.prog X.w X.K X.mg X.base C k m sp) (cl : Cls X.K C) (hr : Room j X.A) (hk : k ≤ j) (hx : Passes (L2.CX X.prog X.w) X E) (he : PE X o ta) {pl : PySem.Sem Bool}
    (ht : eval (.Call (.Attribute o m apos) [] [] pos) X.env = (do
      let ov ← eval o X.env
      standAt apos.atName
      let (f, first) ← holding [ov] (getMethod ov m pl)
      callWith pos f first (backTo pos (starEach [] X.env)) (backToKw pos (keywordEach [] X.env))) := by rfl) :
    PE X (.Call (.Attribute o m apos) [] [] pos) (tMeth C m sp [] E ta tNil) := by
  obtain ⟨f, fd, ps, F, hm, hb⟩ := c.ex
  exact pe_meth0 he cl hm F (hr.mono hk) hb .nil hx ht
end
/-- the class Reader as the top has made it -/
structure RdC (K : PySem.W.Frag) (mg : Str → Option Value) (C : Addr) : Prop where
  cl : Cls K C
  nT : NoAttr K C "text"
  nP : NoAttr K C "place"
  nM : NoAttr K C "many"
  gC : mg "Reader" = some (.ref C)
/-- an object of a class, made -/
structure MkR (P : Program) (w : World) (K : PySem.W.Frag) (mg : Str → Option Value) (base : Heap) (C : Addr) (k : Nat) (sp : Sp) : Prop where
  ex : ∃ (f : Addr) (fd : FuncData) (ps : List Str), FnOk P w K mg base (L2.CX P w) k f fd ps sp ∧ Mk K C f ∧ L2.Binds K fd ps []
theorem pe_mkR {X : Cx} {j k : Nat} {C : Addr} {x : Str} {sp : Sp} {E : XK} {p pos : Pos} {e : Expr} {es : List Expr} {t : TA} (c : MkR X.prog X.w X.K X.mg X.base C k sp) (hr : Room j X.A) (hk : k + 1 ≤ j) (hg : Gl X x) (hm : X.mg x = some (.ref C)) (hx : Passes (L2.CX X.prog X.w) X E)
    (ha : PA X (e :: es) t) (hdb : (x == ("__debug__" : Str)) = false := by decide) (he : starEach (e :: es) X.env = (false, eval e X.env) :: starEach es X.env := by rfl) (hpl : (backTo pos (starEach es X.env)).any (·.1) = false := by rfl) :
    PE X (.Call (.Name x p) (e :: es) [] pos) (tMake C sp [] E t) := by
  obtain ⟨f, fd, ps, F, M, hb⟩ := c.ex
  exact pe_make M F (hr.mono hk) hg hm hb .nil hx ha hdb he hpl
/-- what it holds -/
def rdF (T : Str) (p m : Int) : List (Str × V) := putF (Str.ofString "many") (.int m) (putF (Str.ofString "place") (.int p) (putF (Str.ofString "text") (.str T) []))
theorem rd_names : ¬ ((Str.ofString "text") = (Str.ofString "place")) ∧ ¬ ((Str.ofString "text") = (Str.ofString "many")) ∧ ¬ ((Str.ofString "place") = (Str.ofString "many")) := by decide +kernel
theorem rdF_eq (T : Str) (p m : Int) : rdF T p m = [((Str.ofString "text"), .str T), ((Str.ofString "place"), .int p), ((Str.ofString "many"), .int m)] := by
  unfold rdF
  simp only [putF, if_neg rd_names.1, if_neg rd_names.2.1, if_neg rd_names.2.2]
theorem rd_text (T : Str) (p m : Int) : (rdF T p m).lookup (Str.ofString "text") = some (.str T) := by
  unfold rdF
  rw [lookup_putF, if_neg rd_names.2.1, lookup_putF, if_neg rd_names.1, lookup_putF, if_pos rfl]
theorem rd_place (T : Str) (p m : Int) : (rdF T p m).lookup (Str.ofString "place") = some (.int p) := by
  unfold rdF
  rw [lookup_putF, if_neg rd_names.2.2, lookup_putF, if_pos rfl]
theorem rd_many (T : Str) (p m : Int) : (rdF T p m).lookup (Str.ofString "many") = some (.int m) := by
  unfold rdF
  rw [lookup_putF, if_pos rfl]
theorem rd_none (T : Str) (p m : Int) {x : Str} (h1 : ¬ x = (Str.ofString "text")) (h2 : ¬ x = (Str.ofString "place")) (h3 : ¬ x = (Str.ofString "many")) : (rdF T p m).lookup x = none := by
  unfold rdF
  rw [lookup_putF, if_neg h3, lookup_putF, if_neg h2, lookup_putF, if_neg h1]
  rfl
theorem rd_m_must (T : Str) (p m : Int) : (rdF T p m).lookup (Str.ofString "must") = none := rd_none T p m (by decide +kernel) (by decide +kernel) (by decide +kernel)
theorem rd_m_skip (T : Str) (p m : Int) : (rdF T p m).lookup (Str.ofString "skip") = none := rd_none T p m (by decide +kernel) (by decide +kernel) (by decide +kernel)
theorem rd_m_run (T : Str) (p m : Int) : (rdF T p m).lookup (Str.ofString "run") = none := rd_none T p m (by decide +kernel) (by decide +kernel) (by decide +kernel)
theorem rd_m_number (T : Str) (p m : Int) : (rdF T p m).lookup (Str.ofString "number") = none := rd_none T p m (by decide +kernel) (by decide +kernel) (by decide +kernel)
theorem rd_m_inner (T : Str) (p m : Int) : (rdF T p m).lookup (Str.ofString "inner") = none := rd_none T p m (by decide +kernel) (by decide +kernel) (by decide +kernel)
theorem rd_m_signs_there (T : Str) (p m : Int) : (rdF T p m).lookup (Str.ofString "signs_there") = none := rd_none T p m (by decide +kernel) (by decide +kernel) (by decide +kernel)
theorem rd_m_beat (T : Str) (p m : Int) : (rdF T p m).lookup (Str.ofString "beat") = none := rd_none T p m (by decide +kernel) (by decide +kernel) (by decide +kernel)
theorem rd_m_parts (T : Str) (p m : Int) : (rdF T p m).lookup (Str.ofString "parts") = none := rd_none T p m (by decide +kernel) (by decide +kernel) (by decide +kernel)
theorem put_place (T : Str) (p m q : Int) : putF (Str.ofString "place") (.int q) (rdF T p m) = rdF T q m := by
  rw [rdF_eq, rdF_eq]
  simp only [putF, if_neg rd_names.1, if_true]
theorem put_many (T : Str) (p m q : Int) : putF (Str.ofString "many") (.int q) (rdF T p m) = rdF T p q := by
  rw [rdF_eq, rdF_eq]
  simp only [putF, if_neg rd_names.2.1, if_neg rd_names.2.2, if_true]
theorem rdF_len (T : Str) (p m : Int) : (rdF T p m).length < 1000 := by
  rw [rdF_eq]
  show 3 < 1000
  decide
/-- the reader's object -/
def RdAt (C r dx : Addr) (T : Str) (p m : Nat) (H : Hp) : Prop := H r = some (.ins C dx (rdF T (p : Int) (m : Int)))
/-- all but the one object stays -/
def Exb (r : Addr) (H H' : Hp) : Prop := ∀ a o, a ≠ r → H a = some o → H' a = some o
theorem Exb.refl (r : Addr) (H : Hp) : Exb r H H := fun _ _ _ h => h
theorem Exb.trans {r : Addr} {H H1 H2 : Hp} (a : Exb r H H1) (b : Exb r H1 H2) : Exb r H H2 := fun x o n h => b x o n (a x o n h)
theorem Exb.of {r : Addr} {H H' : Hp} (e : Ex H H') : Exb r H H' := fun a o _ h => e a o h
theorem Exb.put {r : Addr} {H : Hp} {o : HO} : Exb r H (upd H r o) := fun a u n h => by rw [upd_ne n]; exact h
theorem Exb.ex {r : Addr} {H H' : Hp} (e : Exb r H H') (h : H r = none) : Ex H H' := fun a o ha => e a o (ne_of_none ha h) ha
theorem ins_ne {H : Hp} {a r C dx : Addr} {fs : List (Str × V)} {o : HO} (hr : H r = some (.ins C dx fs)) (h : H a = some o) (n : ∀ C dx fs, o ≠ .ins C dx fs) : a ≠ r := fun z => by
  rw [z, hr] at h
  exact n C dx fs (Option.some.inj h).symm
section
variable {K : PySem.W.Frag} {H H' : Hp} {r C dx : Addr} {fs : List (Str × V)}
theorem rd_exb {a : Addr} {u : HO} (hr : H r = some (.ins C dx fs)) (hu : ∀ C dx fs, u ≠ .ins C dx fs) (e : Exb r H H') (h : Rd H a u) : Rd H' a u := by
  rcases h with h | ⟨o, h⟩
  · exact .inl (e _ _ (ins_ne hr h hu) h)
  · exact .inr ⟨o, e _ _ (ins_ne hr h fun _ _ _ z => nomatch z) h⟩
theorem sqL_exb {a : Addr} {xs : List V} (hr : H r = some (.ins C dx fs)) (e : Exb r H H') (h : SqL K H a xs) : SqL K H' a xs := by
  rcases h with h | h
  · exact .inl (rd_exb hr (fun _ _ _ z => nomatch z) e h)
  · exact .inr h
theorem sqT_exb {a : Addr} {xs : List V} (hr : H r = some (.ins C dx fs)) (e : Exb r H H') (h : SqT K H a xs) : SqT K H' a xs := by
  rcases h with h | h
  · exact .inl (rd_exb hr (fun _ _ _ z => nomatch z) e h)
  · exact .inr h
mutual
theorem dp_exb (hr : H r = some (.ins C dx fs)) (e : Exb r H H') : ∀ {v : V} {d : PyData}, Dp K H v d → Dp K H' v d
  | _, _, .non => .non
  | _, _, .bl b => .bl b
  | _, _, .int i => .int i
  | _, _, .str x => .str x
  | _, _, .lst h a => .lst (sqL_exb hr e h) (dpAll_exb hr e a)
  | _, _, .tup h a => .tup (sqT_exb hr e h) (dpAll_exb hr e a)
theorem dpAll_exb (hr : H r = some (.ins C dx fs)) (e : Exb r H H') : ∀ {vs : List V} {ds : List PyData}, DpAll K H vs ds → DpAll K H' vs ds
  | _, _, .nil => .nil
  | _, _, .cons h a => .cons (dp_exb hr e h) (dpAll_exb hr e a)
end
end
/-! ### pieces of a text -/
theorem cut_one (z : Str) (p : Nat) : cutS z (some (p : Int)) (some ((p : Int) + 1)) = strOfL (((tl z).drop p).take 1) := by
  unfold cutS strOfL
  rw [show ((p : Int) + 1) = ((p + 1 : Nat) : Int) by omega, HT.sIx_nat, HT.sIx_nat, len_tl]
  show Str.mk (((tl z).drop (min p (tl z).length)).take (min (p + 1) (tl z).length - min p (tl z).length)).toArray = _
  by_cases h : p < (tl z).length
  · rw [Nat.min_eq_left (by omega), Nat.min_eq_left (by omega), show p + 1 - p = 1 by omega]
  · rw [Nat.min_eq_right (by omega), Nat.min_eq_right (by omega), List.drop_of_length_le (Nat.le_refl _), List.drop_of_length_le (by omega)]
    simp
theorem cut_mid (z : Str) {p q : Nat} (h : q ≤ (tl z).length) : cutS z (some (p : Int)) (some (q : Int)) = strOfL (((tl z).drop p).take (q - p)) := by
  unfold cutS strOfL
  rw [HT.sIx_nat, HT.sIx_nat, len_tl]
  show Str.mk (((tl z).drop (min p (tl z).length)).take (min q (tl z).length - min p (tl z).length)).toArray = _
  rw [Nat.min_eq_left h]
  by_cases h' : p ≤ (tl z).length
  · rw [Nat.min_eq_left h']
  · rw [Nat.min_eq_right (by omega), List.drop_of_length_le (Nat.le_refl _), List.drop_of_length_le (by omega)]
    simp
theorem strOf_inj {a b : List Nat} : strOfL a = strOfL b ↔ a = b := ⟨fun h => by have := congrArg tl h; exact this, fun h => by rw [h]⟩
theorem eq_strOf (a b : List Nat) : decide (V.str (strOfL a) = V.str (strOfL b)) = decide (a = b) := decide_eq_decide.mpr ⟨fun h => strOf_inj.mp (V.str.inj h), fun h => by rw [h]⟩
theorem chs_str (s : String) : Str.ofString s = strOfL (chs s) := str_ext (by rw [tl_ofString]; rfl)
theorem strOf_len (l : List Nat) : (strOfL l).length = l.length := by simp [strOfL, Str.length]
/-! ### words of a text -/
theorem take_while_at {ok : Nat → Bool} : ∀ {l : List Nat} {i : Nat}, (i < (l.takeWhile ok).length → ∃ c, l[i]? = some c ∧ ok c = true) ∧ (i = (l.takeWhile ok).length → l.length ≤ i ∨ ∃ c, l[i]? = some c ∧ ok c = false)
  | [], i => ⟨fun h => absurd h (Nat.not_lt_zero _), fun _ => .inl (Nat.zero_le _)⟩
  | c :: r, i => by
    rw [List.takeWhile_cons]
    cases hc : ok c with
    | false =>
      simp only [Bool.false_eq_true, if_false, List.length_nil]
      exact ⟨fun h => absurd h (Nat.not_lt_zero _), fun h => .inr ⟨c, by rw [h]; rfl, hc⟩⟩
    | true =>
      simp only [if_true, List.length_cons]
      cases i with
      | zero => exact ⟨fun _ => ⟨c, rfl, hc⟩, fun h => by omega⟩
      | succ i =>
        have ih := take_while_at (ok := ok) (l := r) (i := i)
        exact ⟨fun h => ih.1 (by omega), fun h => (ih.2 (by omega)).imp (fun z => by omega) id⟩
theorem take_while_pre {ok : Nat → Bool} : ∀ l : List Nat, l.take (l.takeWhile ok).length = l.takeWhile ok
  | [] => rfl
  | c :: r => by
    rw [List.takeWhile_cons]
    cases hc : ok c with
    | false => rfl
    | true =>
      simp only [if_true, List.length_cons, List.take_succ_cons]
      rw [take_while_pre r]
theorem take_while_le {ok : Nat → Bool} (l : List Nat) : (l.takeWhile ok).length ≤ l.length := by
  have := congrArg List.length (take_while_pre (ok := ok) l)
  rw [List.length_take] at this
  omega
theorem take_while_all {ok : Nat → Bool} : ∀ l : List Nat, ∀ c ∈ l.takeWhile ok, ok c = true
  | [], c, h => by cases h
  | d :: r, c, h => by
    rw [List.takeWhile_cons] at h
    cases hd : ok d with
    | false => rw [hd] at h; cases h
    | true =>
      rw [hd] at h
      rcases List.mem_cons.mp h with rfl | h
      · exact hd
      · exact take_while_all r c h
theorem word_at {T : List Nat} {ok : Nat → Bool} {p i : Nat} : (i < (wordR T ok p).length → ∃ c, T[p + i]? = some c ∧ ok c = true) ∧ (i = (wordR T ok p).length → T.length ≤ p + i ∨ ∃ c, T[p + i]? = some c ∧ ok c = false) := by
  have h := take_while_at (ok := ok) (l := T.drop p) (i := i)
  unfold wordR
  rw [List.getElem?_drop, List.length_drop] at h
  exact ⟨h.1, fun e => (h.2 e).imp (fun z => by omega) id⟩
theorem word_len {T : List Nat} {ok : Nat → Bool} {p : Nat} (h : p ≤ T.length) : p + (wordR T ok p).length ≤ T.length := by
  have := take_while_le (ok := ok) (T.drop p)
  rw [List.length_drop] at this
  unfold wordR
  omega
theorem word_cut {T : Str} {ok : Nat → Bool} {p : Nat} (h : p ≤ (tl T).length) : cutS T (some (p : Int)) (some ((p + (wordR (tl T) ok p).length : Nat) : Int)) = strOfL (wordR (tl T) ok p) := by
  rw [cut_mid T (word_len h), show p + (wordR (tl T) ok p).length - p = (wordR (tl T) ok p).length by omega]
  unfold wordR
  rw [take_while_pre]
theorem word_all {T : List Nat} {ok : Nat → Bool} {p : Nat} : ∀ c ∈ wordR T ok p, ok c = true := take_while_all _
theorem skip_le {T : List Nat} {c p q : Nat} (h : skipR T c p = some q) : q = p + 1 ∧ p < T.length := by
  unfold skipR at h
  split at h
  · rename_i e
    cases h
    refine ⟨rfl, ?_⟩
    have := congrArg List.length e
    rw [List.length_take, List.length_drop, List.length_singleton] at this
    omega
  · cases h
theorem figs_in (c : Nat) : decide (c ∈ tl (Str.ofString "0123456789")) = isFig c := by
  rw [tl_ofString, show ("0123456789" : String).toList.map Char.toNat = [48, 49, 50, 51, 52, 53, 54, 55, 56, 57] from by decide +kernel]
  unfold isFig
  rw [← Bool.decide_and]
  refine decide_eq_decide.mpr ⟨fun h => ?_, fun h => ?_⟩
  · simp only [List.mem_cons, List.not_mem_nil, or_false] at h
    omega
  · simp only [List.mem_cons, List.not_mem_nil, or_false]
    omega
theorem lets_in (c : Nat) : decide (c ∈ tl (Str.ofString "abcdefghijklmnopqrstuvwxyz")) = isLet c := by
  rw [tl_ofString, show ("abcdefghijklmnopqrstuvwxyz" : String).toList.map Char.toNat = [97, 98, 99, 100, 101, 102, 103, 104, 105, 106, 107, 108, 109, 110, 111, 112, 113, 114, 115, 116, 117, 118, 119, 120, 121, 122] from by decide +kernel]
  unfold isLet
  rw [← Bool.decide_and]
  refine decide_eq_decide.mpr ⟨fun h => ?_, fun h => ?_⟩
  · simp only [List.mem_cons, List.not_mem_nil, or_false] at h
    omega
  · simp only [List.mem_cons, List.not_mem_nil, or_false]
    omega
theorem num_le {T : List Nat} {p n q : Nat} (h : numR T p = some (n, q)) : q ≤ T.length ∧ p ≤ T.length := by
  unfold numR at h
  obtain ⟨p1, h1, h2⟩ := Option.bind_eq_some_iff.mp h
  obtain ⟨rfl, h3⟩ := skip_le h1
  split at h2
  · cases h2
    exact ⟨word_len (by omega), by omega⟩
  · cases h2
theorem int_word {w : List Nat} (h : ∀ c ∈ w, isFig c = true) (h1 : w ≠ []) (h2 : w.length ≤ 640) : PySem.intText? (strOfL w) = some ((valOf w : Nat) : Int) :=
  intText_digits (x := strOfL w) (fun c hc => by
    have := h c hc
    unfold isFig at this
    rw [Bool.and_eq_true, decide_eq_true_eq, decide_eq_true_eq] at this
    exact this) h1 (by rw [strOf_len]; omega)
/-- how far a reader comes -/
theorem parts_far {T : List Nat} {rd : Nat → Nat → Got} (hrd : ∀ p m d q m', p ≤ T.length → rd p m = some (d, q, m') → q ≤ T.length ∧ m < m' ∧ m' ≤ 30) {w : List Nat} {p m q m' : Nat} {d : PyData} (hp : p ≤ T.length) (hm : m ≤ 30) (h : partsR T rd w p m = some (d, q, m')) : q ≤ T.length ∧ m < m' ∧ m' ≤ 30 := by
  have inn : ∀ {p m d q m'}, p ≤ T.length → innerR T rd p m = some (d, q, m') → q ≤ T.length ∧ m < m' ∧ m' ≤ 30 := fun {p m d q m'} hp h => by
    unfold innerR at h
    obtain ⟨p1, h1, h2⟩ := Option.bind_eq_some_iff.mp h
    obtain ⟨rfl, h3⟩ := skip_le h1
    exact hrd _ _ _ _ _ (by omega) h2
  unfold partsR at h
  split at h
  · obtain ⟨⟨x, x2⟩, h1, h⟩ := Option.bind_eq_some_iff.mp h
    obtain ⟨⟨y, y2⟩, h2, h⟩ := Option.bind_eq_some_iff.mp h
    obtain ⟨⟨z, z2, z3⟩, h3, h⟩ := Option.map_eq_some_iff.mp h
    cases h
    exact inn (num_le h2).1 h3
  split at h
  · obtain ⟨⟨x, x2⟩, h1, h⟩ := Option.bind_eq_some_iff.mp h
    obtain ⟨⟨z, z2, z3⟩, h3, h⟩ := Option.map_eq_some_iff.mp h
    cases h
    unfold signsR at h1
    obtain ⟨p1, g1, g2⟩ := Option.map_eq_some_iff.mp h1
    obtain ⟨rfl, g3⟩ := skip_le g1
    cases g2
    exact inn (word_len (by omega)) h3
  split at h
  · obtain ⟨⟨x, x2⟩, h1, h⟩ := Option.bind_eq_some_iff.mp h
    obtain ⟨⟨z, z2, z3⟩, h3, h⟩ := Option.map_eq_some_iff.mp h
    cases h
    exact inn (num_le h1).1 h3
  split at h
  · obtain ⟨⟨x, x2, x3⟩, h1, h⟩ := Option.bind_eq_some_iff.mp h
    obtain ⟨⟨y, y2⟩, h2, h⟩ := Option.bind_eq_some_iff.mp h
    obtain ⟨⟨z, z2, z3⟩, h3, h⟩ := Option.bind_eq_some_iff.mp h
    obtain ⟨⟨u, u2⟩, h4, h⟩ := Option.map_eq_some_iff.mp h
    cases h
    have a : x2 ≤ T.length ∧ m < x3 ∧ x3 ≤ 30 := inn hp h1
    have b : z2 ≤ T.length ∧ x3 < z3 ∧ z3 ≤ 30 := inn (num_le h2).1 h3
    exact ⟨(num_le h4).1, Nat.lt_trans a.2.1 b.2.1, b.2.2⟩
  · obtain ⟨v, h0, h⟩ := Option.bind_eq_some_iff.mp h
    obtain ⟨⟨x, x2, x3⟩, h1, h⟩ := Option.bind_eq_some_iff.mp h
    obtain ⟨⟨z, z2, z3⟩, h3, h⟩ := Option.map_eq_some_iff.mp h
    cases h
    have a : x2 ≤ T.length ∧ m < x3 ∧ x3 ≤ 30 := inn hp h1
    have b : q ≤ T.length ∧ x3 < m' ∧ m' ≤ 30 := inn a.1 h3
    exact ⟨b.1, Nat.lt_trans a.2.1 b.2.1, b.2.2⟩
theorem beat_far {T : List Nat} : ∀ (k p m q m' : Nat) (d : PyData), p ≤ T.length → beatR k T p m = some (d, q, m') → q ≤ T.length ∧ m < m' ∧ m' ≤ 30
  | 0, _, _, _, _, _, _, h => by cases h
  | k + 1, p, m, q, m', d, hp, h => by
    unfold beatR at h
    split at h
    · cases h
    rename_i hm
    split at h
    · rename_i ho
      obtain ⟨⟨x, x2, x3⟩, h1, h⟩ := Option.bind_eq_some_iff.mp h
      obtain ⟨q1, h2, h⟩ := Option.map_eq_some_iff.mp h
      cases h
      have hp1 : p + 1 ≤ T.length := by
        have := congrArg List.length ho
        rw [List.length_take, List.length_drop, List.length_singleton] at this
        omega
      have a : x2 ≤ T.length ∧ m + 1 < x3 ∧ x3 ≤ 30 := parts_far (fun p m d q m' hp h => beat_far k p m q m' d hp h) (word_len hp1) (by omega) h1
      obtain ⟨e, b⟩ := skip_le h2
      have b : x2 < T.length := b
      have e : q = x2 + 1 := e
      have c := a.2.1
      exact ⟨by omega, Nat.lt_of_succ_lt c, a.2.2⟩
    · split at h
      · rename_i hw
        cases h
        have := word_len (ok := isLet) hp
        rw [hw, show (chs "source").length = 6 from by decide +kernel] at this
        exact ⟨this, by omega, by omega⟩
      · cases h
end TD

/-! The law's own reader (k16): what it parses; texts of data; both readers take apart what the text is made of. -/
namespace TD
open PySem PySem.Spec PyProof.Rows L2 TL
/-! ### data as texts -/
def isSrc : List PyData → Bool
  | [.str w] => decide (tl w = chs "source")
  | _ => false
mutual
def textD : PyData → List Nat
  | .tuple ds => if isSrc ds = true then chs "source" else 40 :: ((textAll ds).drop 1 ++ [41])
  | .str w => tl w
  | .int n => figs n.toNat
  | _ => []
def textAll : List PyData → List Nat
  | [] => []
  | d :: r => 32 :: (textD d ++ textAll r)
end
theorem textAll_app : ∀ (ds es : List PyData), textAll (ds ++ es) = textAll ds ++ textAll es
  | [], es => rfl
  | d :: r, es => by
    show textAll (d :: (r ++ es)) = _
    rw [textAll, textAll, textAll_app r es, List.cons_append, List.append_assoc]
theorem text_tup {w : Str} {d : PyData} {r : List PyData} : textD (.tuple (.str w :: d :: r)) = 40 :: (tl w ++ textAll (d :: r) ++ [41]) := by
  have h : isSrc (.str w :: d :: r) = false := rfl
  rw [textD, h, if_neg (by decide), textAll, List.drop_succ_cons, List.drop_zero, textD]
theorem text_src : textD (.tuple [.str "source"]) = chs "source" := by
  rw [textD, isSrc, if_pos (decide_eq_true (by decide +kernel))]
theorem tl_words : tl (Str.ofString "every") = chs "every" ∧ tl (Str.ofString "gate") = chs "gate" ∧ tl (Str.ofString "later") = chs "later" ∧ tl (Str.ofString "led") = chs "led" ∧ ∀ v : Two, tl v.word = v.chs := by
  refine ⟨by decide +kernel, by decide +kernel, by decide +kernel, by decide +kernel, fun v => by cases v <;> decide +kernel⟩
theorem tl_bits (bits : List Bool) : tl (bitsStr bits) = bits.map bitC := by
  unfold bitsStr
  simp [tl]
theorem text_beat : ∀ b : Beat, textD b.data = noteL b
  | .source => text_src
  | .every n k b => by
    rw [Beat.data, text_tup, tl_words.1, textAll, textAll, textAll, textAll, textD, textD, text_beat b, Int.toNat_natCast, Int.toNat_natCast, noteL]
    simp
  | .gate bits b => by
    rw [Beat.data, text_tup, tl_words.2.1, textAll, textAll, textAll, textD, tl_bits, text_beat b, noteL]
    simp
  | .later m b => by
    rw [Beat.data, text_tup, tl_words.2.2.1, textAll, textAll, textAll, textD, text_beat b, Int.toNat_natCast, noteL]
    simp
  | .two v a b => by
    rw [Beat.data, text_tup, tl_words.2.2.2.2, textAll, textAll, textAll, text_beat a, text_beat b, noteL]
    simp
  | .led a many b first => by
    rw [Beat.data, text_tup, tl_words.2.2.2.1, textAll, textAll, textAll, textAll, textAll, textD, textD, text_beat a, text_beat b, Int.toNat_natCast, Int.toNat_natCast, noteL]
    simp
/-! ### what stands at a place -/
def At (T : List Nat) (p : Nat) (s : List Nat) (q : Nat) : Prop := T.drop p = s ++ T.drop q ∧ q = p + s.length
theorem At.join {T : List Nat} {p q r : Nat} {s u : List Nat} (h : At T p s q) (g : At T q u r) : At T p (s ++ u) r :=
  ⟨by rw [h.1, g.1, List.append_assoc], by rw [g.2, h.2, List.length_append]; omega⟩
theorem At.le {T : List Nat} {p q : Nat} {s : List Nat} (h : At T p s q) (hp : p ≤ T.length) : q ≤ T.length := by
  have h1 := congrArg List.length h.1
  have h2 := h.2
  rw [List.length_append, List.length_drop, List.length_drop] at h1
  omega
theorem At.whole {T s : List Nat} (h : At T 0 s T.length) : T = s := by
  have := h.1
  rw [List.drop_zero, List.drop_length, List.append_nil] at this
  exact this
theorem at_take {T : List Nat} {p n : Nat} {s : List Nat} (h : (T.drop p).take n = s) (hn : s.length = n) : At T p s (p + n) := by
  refine ⟨?_, by rw [hn]⟩
  rw [← h, ← List.drop_drop]
  exact (List.take_append_drop n _).symm
theorem at_skip {T : List Nat} {c p q : Nat} (h : skipR T c p = some q) : At T p [c] q := by
  unfold skipR at h
  by_cases hc : (T.drop p).take 1 = [c]
  · rw [if_pos hc] at h
    cases h
    exact at_take hc rfl
  · rw [if_neg hc] at h
    cases h
theorem at_word {T : List Nat} {ok : Nat → Bool} {p : Nat} : At T p (wordR T ok p) (p + (wordR T ok p).length) := by
  refine ⟨?_, rfl⟩
  have h : (T.drop p).takeWhile ok ++ (T.drop p).dropWhile ok = T.drop p := List.takeWhile_append_dropWhile
  have h2 : (T.drop p).drop ((T.drop p).takeWhile ok).length = (T.drop p).dropWhile ok := by
    have := congrArg (List.drop ((T.drop p).takeWhile ok).length) h
    rw [List.drop_left] at this
    exact this.symm
  unfold wordR
  rw [← List.drop_drop, h2]
  exact h.symm
/-! ### figures told once -/
theorem figs_val : ∀ (n : Nat) (w : List Nat), w.length = n → (∀ c ∈ w, isFig c = true) → w ≠ [] → (w = [48] ∨ w.headD 0 ≠ 48) → figs (valOf w) = w
  | 0, w, hl, _, hne, _ => absurd (List.length_eq_zero_iff.mp hl) hne
  | n + 1, w, hl, hf, hne, hz => by
    have e : w = w.dropLast ++ [w.getLast hne] := (List.dropLast_concat_getLast hne).symm
    generalize hi : w.dropLast = u at e
    generalize hc : w.getLast hne = c at e
    have hcf : isFig c = true := hf c (by rw [e]; exact List.mem_append_right _ (List.mem_singleton_self _))
    unfold isFig at hcf
    rw [Bool.and_eq_true, decide_eq_true_eq, decide_eq_true_eq] at hcf
    have hv : valOf w = valOf u * 10 + (c - 48) := by
      rw [e]
      unfold valOf
      rw [List.foldl_append]
      rfl
    by_cases hu : u = []
    · subst hu
      have hw : w = [c] := by rw [e]; rfl
      have h0 : valOf ([] : List Nat) = 0 := rfl
      rw [hv, h0, hw]
      unfold figs
      rw [if_pos (by omega)]
      congr 1
      omega
    · have hul : u.length = n := by
        have := congrArg List.length e
        rw [List.length_append, hl] at this
        simpa using this.symm
      have huf : ∀ x ∈ u, isFig x = true := fun x hx => hf x (by rw [e]; exact List.mem_append_left _ hx)
      have hh : u.headD 0 = w.headD 0 := by
        rw [e]
        cases u with
        | nil => exact absurd rfl hu
        | cons a r => rfl
      have hne48 : w.headD 0 ≠ 48 := by
        rcases hz with hz | hz
        · exfalso
          have h2 := congrArg List.length e
          rw [hz, List.length_append] at h2
          have : u.length = 0 := by simpa using h2
          exact hu (List.length_eq_zero_iff.mp this)
        · exact hz
      have ih := figs_val n u hul huf hu (.inr (by rw [hh]; exact hne48))
      have hpos : 1 ≤ valOf u := by
        rcases Nat.eq_zero_or_pos (valOf u) with z | z
        · exfalso
          rw [z] at ih
          have h48 : figs 0 = [48] := by decide +kernel
          rw [h48] at ih
          rw [← ih] at hh
          exact hne48 (hh.symm.trans rfl)
        · exact z
      unfold figs
      rw [if_neg (by omega), hv, show (valOf u * 10 + (c - 48)) / 10 = valOf u by omega, ih, show 48 + (valOf u * 10 + (c - 48)) % 10 = c by omega]
      exact e.symm
theorem word_ok {T : List Nat} {ok : Nat → Bool} {p : Nat} : ∀ c ∈ wordR T ok p, ok c = true := fun c hc => List.all_eq_true.mp List.all_takeWhile c hc
theorem at_num {T : List Nat} {p n q : Nat} (h : numR T p = some (n, q)) : At T p (32 :: figs n) q := by
  unfold numR at h
  obtain ⟨p1, h1, h2⟩ := Option.bind_eq_some_iff.mp h
  by_cases hg : goodNum (wordR T isFig p1) = true
  · rw [if_pos hg] at h2
    obtain ⟨rfl, rfl⟩ := Prod.mk.inj (Option.some.inj h2)
    unfold goodNum at hg
    rw [Bool.and_eq_true, Bool.and_eq_true, Bool.or_eq_true, decide_eq_true_eq, decide_eq_true_eq, decide_eq_true_eq, decide_eq_true_eq] at hg
    obtain ⟨⟨g1, _⟩, g3⟩ := hg
    rw [figs_val _ _ rfl word_ok (fun z => by rw [z] at g1; exact absurd g1 (by decide)) g3]
    exact (at_skip h1).join at_word
  · rw [if_neg hg] at h2
    cases h2
theorem at_sgn {T : List Nat} {p q : Nat} {w : List Nat} (h : signsR T p = some (w, q)) : At T p (32 :: w) q := by
  unfold signsR at h
  obtain ⟨p1, h1, h2⟩ := Option.map_eq_some_iff.mp h
  obtain ⟨rfl, rfl⟩ := Prod.mk.inj h2
  exact (at_skip h1).join at_word
/-! ### the reader's text -/
def Sound (T : List Nat) (rd : Nat → Nat → Got) : Prop := ∀ p m d q m', rd p m = some (d, q, m') → At T p (textD d) q
theorem at_inner {T : List Nat} {rd : Nat → Nat → Got} (S : Sound T rd) {p m m' q : Nat} {d : PyData} (h : innerR T rd p m = some (d, q, m')) : At T p (32 :: textD d) q := by
  unfold innerR at h
  obtain ⟨p1, h1, h2⟩ := Option.bind_eq_some_iff.mp h
  exact (at_skip h1).join (S _ _ _ _ _ h2)
theorem two_some {w : List Nat} {v : Two} (h : twoOf w = some v) : w = v.chs := by
  unfold twoOf at h
  split at h
  · cases h; assumption
  split at h
  · cases h; assumption
  split at h
  · cases h; assumption
  · cases h
theorem at_parts {T : List Nat} {rd : Nat → Nat → Got} (S : Sound T rd) {w : List Nat} {p m m' q : Nat} {d : PyData} (h : partsR T rd w p m = some (d, q, m')) :
    ∃ (z : Str) (e : PyData) (r : List PyData), d = .tuple (.str z :: e :: r) ∧ tl z = w ∧ At T p (textAll (e :: r)) q := by
  obtain ⟨t1, t2, t3, t4, t5⟩ := tl_words
  unfold partsR at h
  split at h
  · rename_i hw
    obtain ⟨⟨n1, q1⟩, h1, h⟩ := Option.bind_eq_some_iff.mp h
    obtain ⟨⟨n2, q2⟩, h2, h⟩ := Option.bind_eq_some_iff.mp h
    obtain ⟨⟨d3, q3, m3⟩, h3, h⟩ := Option.map_eq_some_iff.mp h
    cases h
    refine ⟨_, _, _, rfl, t1.trans hw.symm, ?_⟩
    have := ((at_num h1).join (at_num h2)).join (at_inner S h3)
    rw [textAll, textAll, textAll, textAll, textD, textD, Int.toNat_natCast, Int.toNat_natCast]
    simpa using this
  split at h
  · rename_i hw
    obtain ⟨⟨n1, q1⟩, h1, h⟩ := Option.bind_eq_some_iff.mp h
    obtain ⟨⟨d3, q3, m3⟩, h3, h⟩ := Option.map_eq_some_iff.mp h
    cases h
    refine ⟨_, _, _, rfl, t2.trans hw.symm, ?_⟩
    have := (at_sgn h1).join (at_inner S h3)
    rw [textAll, textAll, textAll, textD]
    simpa [tl] using this
  split at h
  · rename_i hw
    obtain ⟨⟨n1, q1⟩, h1, h⟩ := Option.bind_eq_some_iff.mp h
    obtain ⟨⟨d3, q3, m3⟩, h3, h⟩ := Option.map_eq_some_iff.mp h
    cases h
    refine ⟨_, _, _, rfl, t3.trans hw.symm, ?_⟩
    have := (at_num h1).join (at_inner S h3)
    rw [textAll, textAll, textAll, textD, Int.toNat_natCast]
    simpa using this
  split at h
  · rename_i hw
    obtain ⟨⟨d1, q1, m1⟩, h1, h⟩ := Option.bind_eq_some_iff.mp h
    obtain ⟨⟨n2, q2⟩, h2, h⟩ := Option.bind_eq_some_iff.mp h
    obtain ⟨⟨d3, q3, m3⟩, h3, h⟩ := Option.bind_eq_some_iff.mp h
    obtain ⟨⟨n4, q4⟩, h4, h⟩ := Option.map_eq_some_iff.mp h
    cases h
    refine ⟨_, _, _, rfl, t4.trans hw.symm, ?_⟩
    have := (((at_inner S h1).join (at_num h2)).join (at_inner S h3)).join (at_num h4)
    rw [textAll, textAll, textAll, textAll, textAll, textD, textD, Int.toNat_natCast, Int.toNat_natCast]
    simpa using this
  · obtain ⟨v, hv, h⟩ := Option.bind_eq_some_iff.mp h
    obtain ⟨⟨d1, q1, m1⟩, h1, h⟩ := Option.bind_eq_some_iff.mp h
    obtain ⟨⟨d3, q3, m3⟩, h3, h⟩ := Option.map_eq_some_iff.mp h
    cases h
    refine ⟨_, _, _, rfl, (t5 v).trans (two_some hv).symm, ?_⟩
    have := (at_inner S h1).join (at_inner S h3)
    rw [textAll, textAll, textAll]
    simpa using this
theorem beat_sound (T : List Nat) : ∀ k, Sound T (fun p m => beatR k T p m)
  | 0, p, m, d, q, m', h => by cases h
  | k + 1, p, m, d, q, m', h => by
    have h : beatR (k + 1) T p m = some (d, q, m') := h
    unfold beatR at h
    split at h
    · cases h
    split at h
    · rename_i h40
      obtain ⟨⟨d1, q1, m1⟩, h1, h⟩ := Option.bind_eq_some_iff.mp h
      obtain ⟨q2, h2, h⟩ := Option.map_eq_some_iff.mp h
      cases h
      obtain ⟨z, e, r, rfl, hz, ha⟩ := at_parts (beat_sound T k) h1
      have := (((at_take h40 rfl).join (at_word (ok := isLet))).join ha).join (at_skip h2)
      rw [text_tup, hz]
      simpa using this
    split at h
    · rename_i hw
      cases h
      rw [text_src, ← hw]
      have := at_word (T := T) (ok := isLet) (p := p)
      rw [show p + 6 = p + (wordR T isLet p).length by rw [hw]; rfl]
      exact this
    · cases h
/-! ### the law's reader -/
def notBlank (c : Nat) : Bool := decide (c ≠ 32)
def notEnd (c : Nat) : Bool := decide (c ≠ 32) && decide (c ≠ 41)
def itemsR (sub : Nat → Option (PyData × Nat)) (T : List Nat) : Nat → Nat → List PyData → Option (PyData × Nat)
  | 0, _, _ => none
  | m + 1, at_, acc =>
    if (T.drop at_).take 1 = [32] then
      if (T.drop (at_ + 1)).take 1 = [40] ∨ wordR T notEnd (at_ + 1) = chs "source" then
        (sub (at_ + 1)).bind fun x => itemsR sub T m x.2 (acc ++ [x.1])
      else itemsR sub T m (at_ + 1 + (wordR T notEnd (at_ + 1)).length) (acc ++ [.str ⟨(wordR T notEnd (at_ + 1)).toArray⟩])
    else if (T.drop at_).take 1 = [41] then some (.tuple acc, at_ + 1) else none
def parsedR : Nat → List Nat → Nat → Option (PyData × Nat)
  | 0, _, _ => none
  | n + 1, T, p =>
    if (T.drop p).take 6 = chs "source" then some (.tuple [.str "source"], p + 6)
    else if (T.drop p).take 1 = [40] then itemsR (parsedR n T) T (T.length + 1) (p + 1 + (wordR T notBlank (p + 1)).length) [.str ⟨(wordR T notBlank (p + 1)).toArray⟩]
    else none
def SoundP (T : List Nat) (sub : Nat → Option (PyData × Nat)) : Prop := ∀ p d q, sub p = some (d, q) → At T p (textD d) q
theorem items_sound {T : List Nat} {sub : Nat → Option (PyData × Nat)} (S : SoundP T sub) : ∀ (m p : Nat) (acc : List PyData) (d : PyData) (q : Nat), itemsR sub T m p acc = some (d, q) → ∃ vs, d = .tuple (acc ++ vs) ∧ At T p (textAll vs ++ [41]) q ∧ (vs = [] → (T.drop p).take 1 = [41])
  | 0, _, _, _, _, h => by cases h
  | m + 1, p, acc, d, q, h => by
    unfold itemsR at h
    split at h
    · rename_i h32
      split at h
      · obtain ⟨⟨e, q1⟩, h1, h⟩ := Option.bind_eq_some_iff.mp h
        obtain ⟨vs, rfl, ha, _⟩ := items_sound S m _ _ _ _ h
        refine ⟨e :: vs, by rw [List.append_assoc]; rfl, ?_, fun z => (nomatch z)⟩
        have := ((at_take h32 rfl).join (S _ _ _ h1)).join ha
        rw [textAll]
        simpa using this
      · obtain ⟨vs, rfl, ha, _⟩ := items_sound S m _ _ _ _ h
        refine ⟨.str ⟨(wordR T notEnd (p + 1)).toArray⟩ :: vs, by rw [List.append_assoc]; rfl, ?_, fun z => (nomatch z)⟩
        have := ((at_take h32 rfl).join (at_word (ok := notEnd))).join ha
        rw [textAll, textD]
        simpa [tl] using this
    · split at h
      · rename_i h41
        cases h
        refine ⟨[], by rw [List.append_nil], ?_, fun _ => h41⟩
        rw [textAll]
        exact at_take h41 rfl
      · cases h
theorem word_next {T : List Nat} {ok : Nat → Bool} {p c : Nat} (h : (T.drop (p + (wordR T ok p).length)).take 1 = [c]) : ok c = false := by
  have h1 := (at_word (T := T) (ok := ok) (p := p)).1
  have h2 : T.drop (p + (wordR T ok p).length) = (T.drop p).dropWhile ok := by
    have h3 : wordR T ok p ++ (T.drop p).dropWhile ok = T.drop p := List.takeWhile_append_dropWhile
    exact List.append_cancel_left (h1.symm.trans h3.symm)
  rw [h2] at h
  cases hd : (T.drop p).dropWhile ok with
  | nil => rw [hd] at h; cases h
  | cons x r =>
    rw [hd] at h
    cases h
    have := List.head?_dropWhile_not ok (T.drop p)
    rw [hd] at this
    simpa using this
theorem parsed_sound (T : List Nat) : ∀ n, SoundP T (parsedR n T)
  | 0, p, d, q, h => by cases h
  | n + 1, p, d, q, h => by
    unfold parsedR at h
    split at h
    · rename_i h6
      cases h
      rw [text_src]
      exact at_take h6 (by decide +kernel)
    split at h
    · rename_i h40
      obtain ⟨vs, rfl, ha, hv⟩ := items_sound (parsed_sound T n) _ _ _ _ _ h
      cases vs with
      | nil =>
        exfalso
        have := word_next (hv rfl)
        revert this
        decide
      | cons e r =>
        rw [show ([PyData.str ⟨(wordR T notBlank (p + 1)).toArray⟩] ++ e :: r) = .str ⟨(wordR T notBlank (p + 1)).toArray⟩ :: e :: r from rfl, text_tup]
        have := ((at_take h40 rfl).join (at_word (ok := notBlank))).join ha
        simpa [tl] using this
    · cases h
end TD

/-! Numbers put in for texts; the law's own reader takes apart a beat's text (k16). -/
namespace TD
open PySem PySem.Spec PyProof.Rows L2 TL
def canon (w : List Nat) : Bool := decide (w ≠ []) && w.all isFig && (decide (w = [48]) || decide (w.headD 0 ≠ 48))
def placesI : List PyData → List Nat
  | .str w :: _ => if tl w = chs "every" then [1, 2] else if tl w = chs "later" then [1] else if tl w = chs "led" then [2, 4] else []
  | _ => []
mutual
def numD : PyData → PyData
  | .tuple ds => .tuple (numAll (placesI ds) 0 ds)
  | d => d
def numAll (ps : List Nat) : Nat → List PyData → List PyData
  | _, [] => []
  | k, .tuple ds :: r => numD (.tuple ds) :: numAll ps (k + 1) r
  | k, .str w :: r => (if k ∈ ps ∧ canon (tl w) = true then .int (valOf (tl w) : Nat) else .str w) :: numAll ps (k + 1) r
  | k, d :: r => d :: numAll ps (k + 1) r
end
theorem canon_figs {w : List Nat} (h : canon w = true) : figs (valOf w) = w := by
  unfold canon at h
  rw [Bool.and_eq_true, Bool.and_eq_true, Bool.or_eq_true, decide_eq_true_eq, decide_eq_true_eq, decide_eq_true_eq] at h
  exact figs_val _ _ rfl (List.all_eq_true.mp h.1.2) h.1.1 h.2
theorem figs_canon (n : Nat) : canon (figs n) = true := by
  obtain ⟨h1, h2, h3, h4⟩ := figs_all n
  unfold canon
  rw [Bool.and_eq_true, Bool.and_eq_true, Bool.or_eq_true, decide_eq_true_eq, decide_eq_true_eq, decide_eq_true_eq]
  refine ⟨⟨h2, List.all_eq_true.mpr h1⟩, ?_⟩
  by_cases z : n = 0
  · subst z
    exact .inl (by decide +kernel)
  · exact .inr (h4 z)
theorem places_zero (ds : List PyData) : 0 ∉ placesI ds := by
  cases ds with
  | nil => simp [placesI]
  | cons d r =>
    cases d <;> simp only [placesI] <;> first | simp; done | skip
    repeat' split
    all_goals simp
theorem numAll_len (ps : List Nat) : ∀ (k : Nat) (ds : List PyData), (numAll ps k ds).length = ds.length
  | _, [] => rfl
  | k, d :: r => by cases d <;> simp [numAll, numAll_len ps (k + 1) r]
theorem src_num (ds : List PyData) : isSrc (numAll (placesI ds) 0 ds) = isSrc ds := by
  have h0 := places_zero ds
  match ds with
  | [] => rfl
  | [d] =>
    generalize placesI [d] = ps at h0
    cases d <;> first | rfl | skip
    · simp only [numAll, if_neg (fun z : 0 ∈ ps ∧ _ => h0 z.1)]
  | d :: e :: r =>
    have h1 := numAll_len (placesI (d :: e :: r)) 0 (d :: e :: r)
    have h2 : isSrc (d :: e :: r) = false := by cases d <;> rfl
    rw [h2]
    generalize numAll (placesI (d :: e :: r)) 0 (d :: e :: r) = xs at h1
    match xs, h1 with
    | x :: y :: t, _ => cases x <;> rfl
mutual
theorem text_num : ∀ d : PyData, textD (numD d) = textD d
  | .tuple ds => by
    rw [numD, textD, textD, src_num, textAll_num (placesI ds) 0 ds]
  | .str _ => rfl
  | .int _ => rfl
  | .none => rfl
  | .bool _ => rfl
  | .list _ => rfl
  | .dict _ => rfl
theorem textAll_num (ps : List Nat) : ∀ (k : Nat) (ds : List PyData), textAll (numAll ps k ds) = textAll ds
  | _, [] => rfl
  | k, .tuple ds :: r => by rw [numAll, textAll, textAll, text_num (.tuple ds), textAll_num ps (k + 1) r]
  | k, .str w :: r => by
    rw [numAll, textAll, textAll, textAll_num ps (k + 1) r]
    by_cases h : k ∈ ps ∧ canon (tl w) = true
    · rw [if_pos h, textD, textD, Int.toNat_natCast, canon_figs h.2]
    · rw [if_neg h]
  | k, .int _ :: r => by rw [numAll, textAll, textAll, textAll_num ps (k + 1) r] <;> simp
  | k, .none :: r => by rw [numAll, textAll, textAll, textAll_num ps (k + 1) r] <;> simp
  | k, .bool _ :: r => by rw [numAll, textAll, textAll, textAll_num ps (k + 1) r] <;> simp
  | k, .list _ :: r => by rw [numAll, textAll, textAll, textAll_num ps (k + 1) r] <;> simp
  | k, .dict _ :: r => by rw [numAll, textAll, textAll, textAll_num ps (k + 1) r] <;> simp
end
/-! ### a beat's parse -/
def strE : Beat → PyData
  | .source => .tuple [.str "source"]
  | .every n k b => .tuple [.str "every", .str ⟨(figs n).toArray⟩, .str ⟨(figs k).toArray⟩, strE b]
  | .gate bits b => .tuple [.str "gate", .str (bitsStr bits), strE b]
  | .later m b => .tuple [.str "later", .str ⟨(figs m).toArray⟩, strE b]
  | .two w a b => .tuple [.str w.word, strE a, strE b]
  | .led a many b first => .tuple [.str "led", strE a, .str ⟨(figs many).toArray⟩, strE b, .str ⟨(figs first).toArray⟩]
theorem strE_tup : ∀ b : Beat, ∃ ds, strE b = .tuple ds := fun b => by cases b <;> exact ⟨_, rfl⟩
theorem num_tup {ps : List Nat} {k : Nat} {b : Beat} {r : List PyData} : numAll ps k (strE b :: r) = numD (strE b) :: numAll ps (k + 1) r := by
  obtain ⟨ds, h⟩ := strE_tup b
  rw [h, numAll]
theorem num_str {ps : List Nat} {k : Nat} {w : Str} {r : List PyData} : numAll ps k (.str w :: r) = (if k ∈ ps ∧ canon (tl w) = true then .int (valOf (tl w) : Nat) else .str w) :: numAll ps (k + 1) r := by rw [numAll]
theorem fig_int {n : Nat} {ps : List Nat} {k : Nat} (h : k ∈ ps) : (if k ∈ ps ∧ canon (tl (⟨(figs n).toArray⟩ : Str)) = true then PyData.int (valOf (tl (⟨(figs n).toArray⟩ : Str)) : Nat) else .str ⟨(figs n).toArray⟩) = .int (n : Int) := by
  have e : tl (⟨(figs n).toArray⟩ : Str) = figs n := rfl
  rw [e, if_pos ⟨h, figs_canon n⟩, (figs_all n).2.2.1]
theorem words_differ : chs "gate" ≠ chs "every" ∧ chs "gate" ≠ chs "later" ∧ chs "gate" ≠ chs "led" ∧ chs "later" ≠ chs "every" ∧ chs "led" ≠ chs "every" ∧ chs "led" ≠ chs "later" ∧ (∀ v : Two, v.chs ≠ chs "every" ∧ v.chs ≠ chs "later" ∧ v.chs ≠ chs "led") := by
  refine ⟨by decide +kernel, by decide +kernel, by decide +kernel, by decide +kernel, by decide +kernel, by decide +kernel, fun v => by cases v <;> decide +kernel⟩
theorem places_of : (∀ r, placesI (.str "every" :: r) = [1, 2]) ∧ (∀ r, placesI (.str "later" :: r) = [1]) ∧ (∀ r, placesI (.str "led" :: r) = [2, 4]) ∧ (∀ r, placesI (.str "gate" :: r) = []) ∧ (∀ r (v : Two), placesI (.str v.word :: r) = []) := by
  obtain ⟨t1, t2, t3, t4, t5⟩ := tl_words
  obtain ⟨w1, w2, w3, w4, w5, w6, w7⟩ := words_differ
  refine ⟨fun r => ?_, fun r => ?_, fun r => ?_, fun r => ?_, fun r v => ?_⟩
  · rw [placesI, t1, if_pos rfl]
  · rw [placesI, t3, if_neg w4, if_pos rfl]
  · rw [placesI, t4, if_neg w5, if_neg w6, if_pos rfl]
  · rw [placesI, t2, if_neg w1, if_neg w2, if_neg w3]
  · rw [placesI, t5 v, if_neg (w7 v).1, if_neg (w7 v).2.1, if_neg (w7 v).2.2]
theorem num_strE : ∀ b : Beat, numD (strE b) = b.data := by
  obtain ⟨p1, p2, p3, p4, p5⟩ := places_of
  intro b
  induction b with
  | source =>
    have h : numD (strE .source) = .tuple (numAll (placesI [.str "source"]) 0 [.str "source"]) := by rw [strE, numD]
    rw [h, num_str, if_neg (fun z => places_zero _ z.1), numAll, Beat.data]
  | every n k b ih =>
    rw [strE, numD, p1, num_str, num_str, num_str, num_tup, numAll, ih, fig_int (by decide), fig_int (by decide), if_neg (fun z => absurd z.1 (by decide)), Beat.data]
  | gate bits b ih =>
    rw [strE, numD, p4, num_str, num_str, num_tup, numAll, ih, if_neg (fun z => absurd z.1 (by decide)), if_neg (fun z => absurd z.1 (by decide)), Beat.data]
  | later m b ih =>
    rw [strE, numD, p2, num_str, num_str, num_tup, numAll, ih, fig_int (by decide), if_neg (fun z => absurd z.1 (by decide)), Beat.data]
  | two v a b iha ihb =>
    rw [strE, numD, p5, num_str, num_tup, num_tup, numAll, iha, ihb, if_neg (fun z => absurd z.1 (by decide)), Beat.data]
  | led a many b first iha ihb =>
    rw [strE, numD, p3, num_str, num_tup, num_str, num_tup, num_str, numAll, iha, ihb, fig_int (by decide), fig_int (by decide), if_neg (fun z => absurd z.1 (by decide)), Beat.data]
/-! ### the parse of a beat's text -/
def EndP (r : List Nat) : Prop := ∀ c, r.head? = some c → notEnd c = false
theorem take_word {ok : Nat → Bool} : ∀ (w : List Nat) {r : List Nat}, (∀ c ∈ w, ok c = true) → (∀ c, r.head? = some c → ok c = false) → (w ++ r).takeWhile ok = w
  | [], r, _, hr => by
    cases r with
    | nil => rfl
    | cons c t =>
      show (c :: t).takeWhile ok = []
      rw [List.takeWhile_cons, hr c rfl]
      rfl
  | c :: w, r, h, hr => by
    show (c :: (w ++ r)).takeWhile ok = c :: w
    rw [List.takeWhile_cons, h c List.mem_cons_self, if_pos rfl, take_word w (fun x hx => h x (List.mem_cons_of_mem _ hx)) hr]
structure Plain (s : List Nat) : Prop where
  all : ∀ c ∈ s, notEnd c = true
  open_ : s.head? ≠ some 40
  src : s ≠ chs "source"
structure Inner (sub : Nat → Option (PyData × Nat)) (T : List Nat) (d : PyData) (s : List Nat) : Prop where
  look : s.take 1 = [40] ∨ s = chs "source"
  run : ∀ p r, T.drop p = s ++ r → EndP r → sub p = some (d, p + s.length)
def itemsT (its : List (PyData × List Nat)) : List Nat := its.flatMap fun x => 32 :: x.2
theorem items_run {T : List Nat} {sub : Nat → Option (PyData × Nat)} : ∀ (its : List (PyData × List Nat)) (m p : Nat) (acc : List PyData) (r : List Nat), T.drop p = itemsT its ++ 41 :: r → its.length < m →
    (∀ x ∈ its, (Plain x.2 ∧ x.1 = .str ⟨x.2.toArray⟩) ∨ Inner sub T x.1 x.2) → itemsR sub T m p acc = some (.tuple (acc ++ its.map (·.1)), p + (itemsT its).length + 1)
  | [], 0, _, _, _, _, h, _ => absurd h (by decide)
  | [], m + 1, p, acc, r, hT, _, _ => by
    have h1 : (T.drop p).take 1 = [41] := by rw [hT]; rfl
    unfold itemsR
    rw [h1, if_neg (by decide), if_pos rfl, List.map_nil, List.append_nil]
    rfl
  | x :: its, 0, _, _, _, _, h, _ => absurd h (Nat.not_lt_zero _)
  | x :: its, m + 1, p, acc, r, hT, hm, hg => by
    have e0 : itemsT (x :: its) = 32 :: (x.2 ++ itemsT its) := by unfold itemsT; rw [List.flatMap_cons]; rfl
    rw [e0, List.cons_append] at hT
    have h1 : (T.drop p).take 1 = [32] := by rw [hT]; rfl
    have h2 : T.drop (p + 1) = x.2 ++ (itemsT its ++ 41 :: r) := by
      rw [← List.drop_drop, hT, List.drop_succ_cons, List.drop_zero, List.append_assoc]
    have hE : EndP (itemsT its ++ 41 :: r) := fun c hc => by
      cases its with
      | nil => cases hc; decide
      | cons y t =>
        have : itemsT (y :: t) = 32 :: (y.2 ++ itemsT t) := by unfold itemsT; rw [List.flatMap_cons]; rfl
        rw [this] at hc
        cases hc
        decide
    have h3 : T.drop (p + 1 + x.2.length) = itemsT its ++ 41 :: r := by
      rw [← List.drop_drop, h2, List.drop_left]
    have hlen : (itemsT (x :: its)).length = 1 + x.2.length + (itemsT its).length := by
      rw [e0, List.length_cons, List.length_append]
      omega
    have fin : ∀ d : PyData, d = x.1 → itemsR sub T m (p + 1 + x.2.length) (acc ++ [d]) = some (.tuple (acc ++ (x :: its).map (·.1)), p + (itemsT (x :: its)).length + 1) := fun d hd => by
      rw [items_run its m _ _ r h3 (by rw [List.length_cons] at hm; omega) (fun y hy => hg y (List.mem_cons_of_mem _ hy)), hd, hlen, List.map_cons, List.append_assoc]
      congr 2
      omega
    unfold itemsR
    rw [if_pos h1]
    rcases hg x List.mem_cons_self with ⟨hp, hd⟩ | hi
    · have hw : wordR T notEnd (p + 1) = x.2 := by
        unfold wordR
        rw [h2]
        exact take_word _ hp.all hE
      have hno : ¬ ((T.drop (p + 1)).take 1 = [40] ∨ wordR T notEnd (p + 1) = chs "source") := by
        rintro (z | z)
        · rw [h2] at z
          cases hx : x.2 with
          | nil =>
            rw [hx, List.nil_append] at z
            have := hE 40 (by
              cases hq : itemsT its ++ 41 :: r with
              | nil => rw [hq] at z; cases z
              | cons c t => rw [hq] at z; cases z; rfl)
            revert this
            decide
          | cons c t =>
            rw [hx] at z
            cases z
            exact hp.open_ (by rw [hx]; rfl)
        · exact hp.src (hw ▸ z)
      rw [if_neg hno, hw]
      exact fin _ hd.symm
    · have hyes : (T.drop (p + 1)).take 1 = [40] ∨ wordR T notEnd (p + 1) = chs "source" := by
        rcases hi.look with z | z
        · left
          rw [h2]
          cases hx : x.2 with
          | nil => rw [hx] at z; cases z
          | cons c t => rw [hx] at z; cases z; rfl
        · right
          unfold wordR
          rw [h2, z]
          exact take_word _ (by decide +kernel) hE
      rw [if_pos hyes, hi.run _ _ h2 hE]
      exact fin _ rfl
theorem plain_figs {s : List Nat} (h : ∀ c ∈ s, isFig c = true) : Plain s := by
  have h2 : ∀ c, isFig c = true → notEnd c = true ∧ c ≠ 40 := fun c hc => by
    unfold isFig at hc
    rw [Bool.and_eq_true, decide_eq_true_eq, decide_eq_true_eq] at hc
    refine ⟨?_, by omega⟩
    unfold notEnd
    rw [decide_eq_true (by omega), decide_eq_true (by omega)]
    rfl
  refine ⟨fun c hc => (h2 c (h c hc)).1, fun z => ?_, fun z => ?_⟩
  · cases s with
    | nil => cases z
    | cons c t =>
      cases z
      exact (h2 40 (h 40 List.mem_cons_self)).2 rfl
  · rw [z] at h
    have := h 115 (by decide +kernel)
    revert this
    decide
/-- the parse of a beat -/
def Parses (b : Beat) : Prop := ∀ n T, b.size ≤ n → Inner (parsedR n T) T (strE b) (noteL b)
theorem parse_open {n : Nat} {T w : List Nat} {its : List (PyData × List Nat)} {p : Nat} {r : List Nat} (hw : w.all isLet = true) (hn : its ≠ []) (hT : T.drop p = 40 :: (w ++ (itemsT its ++ 41 :: r)))
    (hg : ∀ x ∈ its, (Plain x.2 ∧ x.1 = .str ⟨x.2.toArray⟩) ∨ Inner (parsedR n T) T x.1 x.2) : parsedR (n + 1) T p = some (.tuple (.str ⟨w.toArray⟩ :: its.map (·.1)), p + 1 + w.length + (itemsT its).length + 1) := by
  have h1 : (T.drop p).take 1 = [40] := by rw [hT]; rfl
  have h6 : ¬ (T.drop p).take 6 = chs "source" := fun z => by
    rw [hT] at z
    have := congrArg (fun l : List Nat => l.head?) z
    have h2 : (chs "source").head? = some 115 := by decide +kernel
    rw [h2] at this
    cases this
  have hb : T.drop (p + 1) = w ++ (itemsT its ++ 41 :: r) := by rw [← List.drop_drop, hT, List.drop_succ_cons, List.drop_zero]
  have hwd : wordR T notBlank (p + 1) = w := by
    unfold wordR
    rw [hb]
    refine take_word _ (fun c hc => ?_) (fun c hc => ?_)
    · have := word_let hw c hc
      unfold isLet at this
      rw [Bool.and_eq_true, decide_eq_true_eq, decide_eq_true_eq] at this
      unfold notBlank
      exact decide_eq_true (by omega)
    · cases its with
      | nil => exact absurd rfl hn
      | cons y t =>
        have : itemsT (y :: t) = 32 :: (y.2 ++ itemsT t) := by unfold itemsT; rw [List.flatMap_cons]; rfl
        rw [this] at hc
        cases hc
        decide
  have h3 : T.drop (p + 1 + w.length) = itemsT its ++ 41 :: r := by rw [← List.drop_drop, hb, List.drop_left]
  have hlen : its.length < T.length + 1 := by
    have h4 := congrArg List.length h3
    rw [List.length_drop, List.length_append] at h4
    have h5 : its.length ≤ (itemsT its).length := by
      clear hT hg hn hwd hb h3 h4
      induction its with
      | nil => exact Nat.zero_le _
      | cons y t ih =>
        have : itemsT (y :: t) = 32 :: (y.2 ++ itemsT t) := by unfold itemsT; rw [List.flatMap_cons]; rfl
        rw [this, List.length_cons, List.length_cons, List.length_append]
        omega
    omega
  unfold parsedR
  rw [if_neg h6, if_pos h1, hwd, items_run its _ _ _ r h3 hlen hg]
  rfl
theorem note_look (b : Beat) : (noteL b).take 1 = [40] ∨ noteL b = chs "source" := by
  rcases note_open b with rfl | ⟨r, h⟩
  · exact .inr rfl
  · exact .inl (by rw [h]; rfl)
theorem parse_node {b : Beat} {w : List Nat} {z : Str} {its : List (PyData × List Nat)} (hz : tl z = w) (hw : w.all isLet = true) (hn : its ≠ []) (hnote : noteL b = 40 :: (w ++ (itemsT its ++ [41]))) (hs : strE b = .tuple (.str z :: its.map (·.1))) {k : Nat} (hk : b.size = k + 1)
    (hg : ∀ n T, k ≤ n → ∀ x ∈ its, (Plain x.2 ∧ x.1 = .str ⟨x.2.toArray⟩) ∨ Inner (parsedR n T) T x.1 x.2) : Parses b := by
  intro n T hsz
  obtain ⟨m, rfl⟩ : ∃ m, n = m + 1 := ⟨n - 1, by omega⟩
  refine ⟨note_look b, fun p r hT hr => ?_⟩
  rw [hnote] at hT
  have hT2 : T.drop p = 40 :: (w ++ (itemsT its ++ 41 :: r)) := by
    rw [hT]
    simp
  rw [parse_open hw hn hT2 (hg m T (by omega)), hs, hnote]
  have hzz : z = ⟨w.toArray⟩ := str_ext (by rw [hz])
  rw [hzz]
  congr 2
  simp
  omega
theorem parses_all : ∀ b : Beat, Parses b := by
  obtain ⟨t1, t2, t3, t4, t5⟩ := tl_words
  intro b
  induction b with
  | source =>
    intro n T hsz
    obtain ⟨m, rfl⟩ : ∃ m, n = m + 1 := ⟨n - 1, by have : Beat.source.size = 1 := rfl; omega⟩
    refine ⟨.inr rfl, fun p r hT hr => ?_⟩
    unfold parsedR
    rw [if_pos (by rw [hT]; exact List.take_left' (by decide +kernel))]
    rfl
  | every n k b ih =>
    refine parse_node (its := [(.str ⟨(figs n).toArray⟩, figs n), (.str ⟨(figs k).toArray⟩, figs k), (strE b, noteL b)]) t1 (by decide +kernel) (by simp) (by simp [noteL, itemsT]) rfl (k := b.size) rfl fun m T hm x hx => ?_
    simp only [List.mem_cons, List.not_mem_nil, or_false] at hx
    rcases hx with rfl | rfl | rfl
    · exact .inl ⟨plain_figs (figs_all n).1, rfl⟩
    · exact .inl ⟨plain_figs (figs_all k).1, rfl⟩
    · exact .inr (ih m T hm)
  | gate bits b ih =>
    refine parse_node (its := [(.str (bitsStr bits), bits.map bitC), (strE b, noteL b)]) t2 (by decide +kernel) (by simp) (by simp [noteL, itemsT]) rfl (k := b.size) rfl fun m T hm x hx => ?_
    simp only [List.mem_cons, List.not_mem_nil, or_false] at hx
    rcases hx with rfl | rfl
    · exact .inl ⟨plain_figs (bits_fig bits), congrArg PyData.str (str_ext (tl_bits bits))⟩
    · exact .inr (ih m T hm)
  | later n b ih =>
    refine parse_node (its := [(.str ⟨(figs n).toArray⟩, figs n), (strE b, noteL b)]) t3 (by decide +kernel) (by simp) (by simp [noteL, itemsT]) rfl (k := b.size) rfl fun m T hm x hx => ?_
    simp only [List.mem_cons, List.not_mem_nil, or_false] at hx
    rcases hx with rfl | rfl
    · exact .inl ⟨plain_figs (figs_all n).1, rfl⟩
    · exact .inr (ih m T hm)
  | two v a b iha ihb =>
    refine parse_node (its := [(strE a, noteL a), (strE b, noteL b)]) (t5 v) (two_let v) (by simp) (by simp [noteL, itemsT]) rfl (k := a.size + b.size) rfl fun m T hm x hx => ?_
    simp only [List.mem_cons, List.not_mem_nil, or_false] at hx
    rcases hx with rfl | rfl
    · exact .inr (iha m T (by omega))
    · exact .inr (ihb m T (by omega))
  | led a many b first iha ihb =>
    refine parse_node (its := [(strE a, noteL a), (.str ⟨(figs many).toArray⟩, figs many), (strE b, noteL b), (.str ⟨(figs first).toArray⟩, figs first)]) t4 (by decide +kernel) (by simp) (by simp [noteL, itemsT]) rfl (k := a.size + b.size) rfl fun m T hm x hx => ?_
    simp only [List.mem_cons, List.not_mem_nil, or_false] at hx
    rcases hx with rfl | rfl | rfl | rfl
    · exact .inr (iha m T (by omega))
    · exact .inl ⟨plain_figs (figs_all many).1, rfl⟩
    · exact .inr (ihb m T (by omega))
    · exact .inl ⟨plain_figs (figs_all first).1, rfl⟩
end TD

/-! tuple(list). -/
namespace TD
open PySem PySem.Spec PyProof.Rows L2
def rTupL (K : PySem.W.Frag) : List V → Hp → VK → Prop := fun xs H Q => ∃ (p : Addr) (ys : List V), xs = [.ref p] ∧ SqL K H p ys ∧ nT H ys Q
theorem call_tupL {X : Cx} {K : PySem.W.Frag} (h : X.K = K) : CallR X (.type "tuple") (rTupL K) := by
  subst h
  exact fun pins s σ H xs us Q I r ⟨p, ys, e, hq, q⟩ => call_tuple_of pins s σ H xs us Q I r ⟨p, ys, e, .inl ⟨hq, q.get⟩⟩
end TD

namespace TD
open PySem PySem.Spec PyProof.Rows L2
def topS (i : Nat) : Stmt := PySem.Challenge.pw_tickdivide_k16_texts_that_write_no_beat.main.body.getD i (.Pass ⟨0, 0, 0, 0⟩)
abbrev s_NoWish___init__ : Stmt := inClass (topS 6) 0
abbrev s_is_whole : Stmt := topS 15
abbrev s_are_signs : Stmt := topS 16
abbrev s_is_every : Stmt := topS 17
abbrev s_inner_of : Stmt := topS 18
abbrev s_is_beat : Stmt := topS 19
abbrev s_Reader___init__ : Stmt := inClass (topS 24) 0
abbrev s_Reader_must : Stmt := inClass (topS 24) 1
abbrev s_Reader_skip : Stmt := inClass (topS 24) 2
abbrev s_Reader_run : Stmt := inClass (topS 24) 3
abbrev s_Reader_number : Stmt := inClass (topS 24) 4
abbrev s_Reader_inner : Stmt := inClass (topS 24) 5
abbrev s_Reader_signs_there : Stmt := inClass (topS 24) 6
abbrev s_Reader_beat : Stmt := inClass (topS 24) 7
abbrev s_Reader_parts : Stmt := inClass (topS 24) 8
abbrev s_read : Stmt := topS 25
abbrev s__law_mix : Stmt := topS 27
abbrev s__law_next : Stmt := topS 28
abbrev s__law_alike : Stmt := topS 29
abbrev s__law_beat : Stmt := topS 30
abbrev s__law_whole : Stmt := topS 31
abbrev s__law_right : Stmt := topS 32
abbrev s__law_counted : Stmt := topS 33
abbrev s__law_text : Stmt := topS 34
abbrev s__law_parsed : Stmt := topS 35
abbrev s__law_numbered : Stmt := topS 36
abbrev s__law_due : Stmt := topS 37
abbrev s__law_told : Stmt := topS 38
abbrev s__law_changed : Stmt := topS 39
abbrev s_law : Stmt := topS 40
end TD

namespace TD
open PySem PySem.Spec PyProof.Rows L2
section
variable {P : Program} {w : World} {K : PySem.W.Frag} {mg : Str → Option Value} {base : Heap}
local macro_rules | `(tactic| walk_at "ex") => `(tactic| first | assumption | exact Ex.refl _ | (refine Ex.trans ?_ (by assumption : Ex _ _); walk_at "ex"))
local macro_rules | `(tactic| walk_at "fresh") => `(tactic| first | assumption | (refine Ex.back (by assumption : Ex _ _) ?_; walk_at "fresh"))
local macro_rules | `(tactic| walk_at "cond") => `(tactic| ((show (_ : Prop)); (try dsimp only [CMul, CDiv, CPow]); (try simp only [List.length_map]); first | omega | assumption | decide | (simp only [List.length_cons, List.length_nil]; decide) | (split <;> omega) | exact ⟨by omega, by omega⟩ | exact .inr ⟨by omega, by omega⟩ | exact .inl ⟨by omega, by omega⟩ | exact .inr ⟨by decide, by decide⟩ | exact ⟨by decide, by decide, by decide⟩))
local macro_rules | `(tactic| walk_at "seq") => `(tactic| first | assumption | exact SqL.of (by assumption) | exact SqT.of (by assumption) | exact SqL.of (xs := []) (by assumption) | exact FormNew.at (by assumption) | exact sq_upd | exact upd_lst | (refine Ex.sqL (by assumption : Ex _ _) ?_; walk_at "seq") | (refine Ex.sqT (by assumption : Ex _ _) ?_; walk_at "seq") | (refine (by assumption : Ex _ _) _ _ ?_; walk_at "seq") | (refine FormAt.ext ?_ (by assumption : Ex _ _); walk_at "seq") | (refine Rng.ext ?_ (by assumption : Ex _ _); walk_at "seq"))
local macro_rules | `(tactic| walk_at "dp") => `(tactic| first | assumption | exact Dp.int _ | exact Dp.str _ | exact Dp.bl _ | exact Dp.non | (refine Ex.dp (by assumption : Ex _ _) ?_; walk_at "dp"))
local macro_rules | `(tactic| walk_at "go1") => `(tactic| first
  | (refine ⟨_, _, ?d, rfl, ?hd, rfl, ?main⟩; (case hd => walk_at "dp"))
  | refine ⟨_, rfl, ?_⟩
  | refine ⟨_, _, rfl, rfl, (by walk_at "cond"), ?_⟩
  | (refine ⟨_, ?xs, _, ?v, rfl, rfl, ?hS, ?hA, ?main⟩; (case hS => walk_at "seq"); (case hA => rfl))
  | (refine ⟨_, ?xs, rfl, .inl ?hS, ?main⟩; (case hS => walk_at "seq"))
  | (refine ⟨_, ?xs, rfl, .inr ?hS, ?main⟩; (case hS => walk_at "seq"))
  | (refine ⟨_, ?xs, rfl, ?hS, ?hL, ?main⟩; (case hS => walk_at "seq"); (case hL => rfl))
  | (refine ⟨_, ?xs, rfl, ?hS, ?main⟩; (case hS => walk_at "seq"))
  | (refine ⟨(?hE : ∃ xs, SqL _ _ _ xs), ?main⟩; (case hE => (refine ⟨?xs, ?hS⟩; (case hS => walk_at "seq"))))
  | refine ⟨_, _, rfl, rfl, ?_⟩
  | refine ⟨_, _, rfl, ?_⟩
  | refine ⟨rfl, ?_⟩
  | refine ⟨by walk_at "cond", ?_⟩
  | (show nE _ _; refine nE_intro fun _ _ => ?_))
local macro_rules | `(tactic| walk_at "go") => `(tactic| repeat walk_at "go1")
local macro_rules | `(tactic| walk_at "dr") => `(tactic| first | refine ⟨by walk_at "seq", by omega, by omega, ?_⟩ | skip)
local macro_rules | `(tactic| walk_at "norm") => `(tactic| (generalize hσ0 : L2.start _ _ = σ0; simp only [L2.start, List.map_cons, List.map_nil, List.length_cons, List.length_nil, Nat.reduceAdd, Nat.reduceSub, List.replicate, List.cons_append, List.nil_append] at hσ0; subst hσ0))

/-! ### the greatest common divisor -/
def spDivisor : Sp := fun vs H Q _ => ∃ x y : Int, vs = [.int x, .int y] ∧ 0 ≤ x ∧ 0 ≤ y ∧ Q (.int (gcdZ x y)) H

/-! ### what is drawn from -/
theorem sc__law_mix : FnScope ["_law_script", "_law_seed", "_law_mixed", "_law_cell"] ["_law_script", "_law_seed"] (defScope s__law_mix) := ⟨rfl, rfl, rfl, by decide +kernel, rfl, by decide +kernel, by decide +kernel⟩
theorem ok_mix0 {f : Addr} {fd : FuncData} (F : Fun K "_law_mix" "_law_mix" s__law_mix f fd) (B : Blt mg) : FnOk P w K mg base CX0 1 f fd ["_law_script", "_law_seed"] (spMix0 K) := by
  have nd := sc__law_mix.nd
  refine F.ok sc__law_mix (fun vs H Q E h => ?_) (fun cdv A outer s H vs Q E hr h => ?_)
  · obtain ⟨a, ns, seed, rfl, _⟩ := h
    rfl
  · obtain ⟨a, ns, seed, rfl, hS, hl, q⟩ := h
    refine ⟨_, 
    (pss_cons (ps_set (i := 2) nd rfl (Or.inl rfl) (pv 1))
    (pss_cons (ps_for PassesOwn.never rfl (pi_list (pv 0)) (pg_name (i := 3) nd rfl (Or.inl rfl)) (pss_one (ps_set (i := 2) nd rfl (Or.inl rfl) (pe_op op_mod (pe_op op_add (pe_op op_add (pe_op op_mul (pv 2) pe_int) (pe_op op_mod (pv 3) pe_int)) pe_int) pe_int))))
    (pss_one (ps_ret (pe_lstN (pa_cons (pv 2) (pa_cons (pe_callTy (listK (K := K) rfl) (by rfl) B.list bt_list (pa_cons (pv 0) pa_nil)) (pa_cons pe_int pa_nil)))))))), ?_⟩
    try dsimp only [cxOf, Cx.nox, Cx.wish]
    refine ⟨_, rfl, .ref a, rfl, a, rfl, ⟨_, hS⟩, for_list (K := K) (a := a) (xs := ns.map V.int) (fun i σ H2 => H2 = H ∧ ∃ (m : Int) (y : Option V), σ = [some (.ref a), some (.int seed), some (.int m), y])
      ⟨rfl, seed, none, rfl⟩ (fun i σ H2 _ ⟨e, _⟩ => by subst e; exact hS) ?_ ?_⟩
    · rintro i y σ H2 hi ⟨rfl, m, z, rfl⟩
      obtain ⟨n, rfl⟩ : ∃ n, y = V.int n := by
        obtain ⟨n, _, e⟩ := List.mem_map.mp (List.mem_of_getElem? hi)
        exact ⟨n, e.symm⟩
      walk_at "go"
      exact ⟨_, _, rfl⟩
    · rintro σ H2 ⟨rfl, m, z, rfl⟩
      walk_at "go"
      refine nL_intro fun l H1 nl e1 hl => ?_
      walk_at "go"
      refine nL_intro fun h H3 nh e3 hh => ?_
      have ne : l ≠ h := ne_of_none hl nh
      exact q h l m _ (e1.trans e3) (e1.back nh) nl (Ne.symm ne) hh (e3 _ _ hl)
theorem sc__law_next : FnScope ["_law_h", "_law_many", "_law_at", "_law_cell"] ["_law_h", "_law_many"] (defScope s__law_next) := ⟨rfl, rfl, rfl, by decide +kernel, rfl, by decide +kernel, by decide +kernel⟩
theorem ok_next0 {f : Addr} {fd : FuncData} (F : Fun K "_law_next" "_law_next" s__law_next f fd) (B : Blt mg) : FnOk P w K mg base CX0 1 f fd ["_law_h", "_law_many"] spNext0 := by
  have nd := sc__law_next.nd
  refine F.ok sc__law_next (fun vs H Q E h => ?_) (fun cdv A outer s H vs Q E hr h => ?_)
  · obtain ⟨h, l, m, p, many, cs, rfl, _⟩ := h
    rfl
  · obtain ⟨h, l, m, p, many, cs, rfl, hne, e1, e2, hc, p1, p2, q⟩ := h
    refine ⟨_, 
    (pss_cons (ps_set (i := 2) nd rfl (Or.inl rfl) (pe_op op_mod (pe_ix (ixl (K := K) rfl) (pv 0) pe_int (fun _ _ => rfl)) (pe_callB (call_max2 rfl) (by rfl) B.max bt_max (pa_cons pe_int (pa_cons (pe_callB (lenK (K := K) rfl) (by rfl) B.len PySem.boot_len (pa_cons (pe_ix (ixl (K := K) rfl) (pv 0) pe_int (fun _ _ => rfl)) pa_nil)) pa_nil)))))
    (pss_cons (ps_set (i := 3) nd rfl (Or.inl rfl) (pe_ifExp (pt_cmp (neNil (K := K) rfl hr.units (pe_ix (ixl (K := K) rfl) (pv 0) pe_int (fun _ _ => rfl)))) (pe_ix (ixl (K := K) rfl) (pe_ix (ixl (K := K) rfl) (pv 0) pe_int (fun _ _ => rfl)) (pv 2) (fun _ _ => rfl)) pe_int))
    (pss_cons (ps_if (pt_cmpR op_ge (pv 3) (pe_op op_pow pe_int pe_int) (nomark _)) (pss_cons (ps_asg (pe_op op_fdiv (pv 3) (pv 1)) (pg_sub (pe_ix (ixl (K := K) rfl) (pv 0) pe_int (fun _ _ => rfl)) (pv 2) set_list))
    (pss_one (ps_ret (pe_op op_mod (pv 3) (pv 1))))) pss_nil)
    (pss_cons (ps_asg (pe_op op_mod (pe_op op_add (pe_op op_add (pe_op op_mul (pe_ix (ixl (K := K) rfl) (pv 0) pe_int (fun _ _ => rfl)) pe_int) (pe_op op_mul (pv 3) pe_int)) pe_int) pe_int) (pg_sub (pv 0) pe_int set_list))
    (pss_cons (ps_asg (pe_op op_add (pe_ix (ixl (K := K) rfl) (pv 0) pe_int (fun _ _ => rfl)) pe_int) (pg_sub (pv 0) pe_int set_list))
    (pss_one (ps_ret (pe_op op_mod (pe_op op_fdiv (pe_ix (ixl (K := K) rfl) (pv 0) pe_int (fun _ _ => rfl)) pe_int) (pv 1))))))))), ?_⟩
    try dsimp only [cxOf, Cx.nox, Cx.wish]
    have s1 : SqL K H h [.int m, .ref l, .int p] := .of e1
    have s2 : SqL K H l (cs.map V.int) := .of e2
    -- the place
    walk_at "go"
    rename_i H1 x1
    have hl : ((cs.map V.int).length : Int) = (cs.length : Int) := by rw [List.length_map]
    have a0 : H1 h = some (h3 m l p) := x1 _ _ e1
    have b0 : H1 l = some (hL cs) := x1 _ _ e2
    have s3 : SqL K H1 h [.int m, .ref l, .int p] := .of a0
    have s4 : SqL K H1 l (cs.map V.int) := .of b0
    have st0 : ∀ b o, H b = some o → b ≠ h → b ≠ l → H1 b = some o := fun b o hb _ _ => x1 b o hb
    rw [hl]
    -- the rest, once the cell is known
    have rest : ∀ (j : Nat) (c : Int), (1000000000000000000 ≤ c → cs[j]? = some c) → ∀ at_ : Int, at_ = (j : Int) →
        (tSeq (tIfS (tTest (tOp (rI0 fun i j => V.bl (decide (j ≤ i))) (tVar 3) (tOp (rI CPow fun i j => V.int (i ^ j.toNat)) (tC (V.int 10)) (tC (V.int 18)))))
          (tSeq (tAsg (tOp (rI CDiv fun i j => V.int (i / j)) (tVar 3) (tVar 1)) (gSub (tOp (rIxL K) (tVar 0) (tC (V.int 1))) (tVar 2) rSetL))
            (tRet (tOp (rI (fun _ j => 0 < j) fun i j => V.int (i % j)) (tVar 3) (tVar 1)))) tNext)
          (tSeq (tAsg (tOp (rI (fun _ j => 0 < j) fun i j => V.int (i % j)) (tOp (rI0 fun i j => V.int (i + j)) (tOp (rI0 fun i j => V.int (i + j)) (tOp (rI CMul fun i j => V.int (i * j)) (tOp (rIxL K) (tVar 0) (tC (V.int 0))) (tC (V.int 48271))) (tOp (rI CMul fun i j => V.int (i * j)) (tVar 3) (tC (V.int 69621)))) (tC (V.int 11))) (tC (V.int 2147483647))) (gSub (tVar 0) (tC (V.int 0)) rSetL))
            (tSeq (tAsg (tOp (rI0 fun i j => V.int (i + j)) (tOp (rIxL K) (tVar 0) (tC (V.int 2))) (tC (V.int 1))) (gSub (tVar 0) (tC (V.int 2)) rSetL))
              (tRet (tOp (rI (fun _ j => 0 < j) fun i j => V.int (i % j)) (tOp (rI CDiv fun i j => V.int (i / j)) (tOp (rIxL K) (tVar 0) (tC (V.int 0))) (tC (V.int 7))) (tVar 1))))))
          { nx := fun _ H' => Q V.non H', rt := Q } [some (.ref h), some (.int many), some (.int at_), some (.int c)] H1 := by
      rintro j c hj at_ rfl
      walk_at "go"
      refine ite2 (fun e => ?_) (fun e => ?_)
      · have e : (1000000000000000000 : Int) ≤ c := of_decide_eq_true e
        have hj := hj e
        have hlt : j < cs.length := (List.getElem?_eq_some_iff.mp hj).1
        walk_at "go"
        refine ⟨l, _, _, j, rfl, rfl, b0, Evl.ixN_nat (by rw [List.length_map]; exact hlt), ?_⟩
        walk_at "go"
        refine q _ m p (cs.set j (c / many)) _ (Int.emod_nonneg _ (by omega)) (Int.emod_lt_of_pos _ p1) (by rw [List.length_set]; exact hc) (fun b o hb n1 n2 => by rw [upd_ne n2]; exact st0 b o hb n1 n2) (by rw [upd_ne hne]; exact a0) ?_
        rw [upd_same]
        unfold hL
        rw [List.map_set]
      · walk_at "go"
        refine q _ _ (p + 1) cs _ (Int.emod_nonneg _ (by omega)) (Int.emod_lt_of_pos _ p1) hc (fun b o hb n1 n2 => by rw [upd_ne n1, upd_ne n1]; exact st0 b o hb n1 n2) (by rw [upd_same]; rfl) (by rw [upd_ne (Ne.symm hne), upd_ne (Ne.symm hne)]; exact b0)
    by_cases hcs : cs = []
    · subst hcs
      refine iteF ?_
      exact rest 0 0 (fun z => absurd z (by decide)) _ (by rw [if_neg (by decide)]; show p % 1 = 0; omega)
    · have hpos : 0 < cs.length := List.length_pos_iff.mpr hcs
      have hd : (if ((cs.length : Nat) : Int) > 1 then ((cs.length : Nat) : Int) else 1) = (cs.length : Int) := by split <;> omega
      rw [hd]
      refine iteNSF (show ¬ cs = [] from hcs) ?_
      obtain ⟨j, hj⟩ := Int.eq_ofNat_of_zero_le (Int.emod_nonneg p (show ((cs.length : Nat) : Int) ≠ 0 by omega))
      have hjl : j < cs.length := by have := Int.emod_lt_of_pos p (show (0 : Int) < ((cs.length : Nat) : Int) by omega); omega
      have hget : (cs.map V.int)[j]? = some (.int cs[j]) := by rw [List.getElem?_map, List.getElem?_eq_getElem hjl]; rfl
      refine ⟨_, rfl, h, _, 1, .ref l, rfl, rfl, s3, rfl, _, rfl, l, _, _, .int cs[j], rfl, rfl, s4, at_of hj hget, ?_⟩
      exact rest j cs[j] (fun _ => List.getElem?_eq_getElem hjl) _ hj


theorem gcdZ_pos {x y : Int} (h : 0 < x) : 0 < gcdZ x y := by
  unfold gcdZ
  have := Int.gcd_pos_of_ne_zero_left y (show x ≠ 0 by omega)
  omega
theorem gcdZ_le {x y : Int} (h : 0 < y) : gcdZ x y ≤ y := by
  unfold gcdZ
  exact Int.le_of_dvd h (Int.gcd_dvd_right x y)
def spMultiple : Sp := fun vs H Q _ => ∃ x y : Int, vs = [.int x, .int y] ∧ 0 < x ∧ 0 < y ∧ y < 1073741824 ∧ Q (.int (lcmZ x y)) H
/-- refused if it is too many -/
def spShort (C : Addr) : Sp := fun vs H Q E => ∃ n : Int, vs = [.int n] ∧ (n ≤ 5040 → Q .non H) ∧ (5040 < n → E (.ref C) none H)
def spStart : Sp := fun vs H Q _ => ∃ (v : V) (f : Form), vs = [v] ∧ FormAt H v f ∧ ∀ H', Ex H H' → Q (.int (startOf f)) H'

def spGapsRound (K : PySem.W.Frag) : Sp := fun vs H Q _ => ∃ (a : Addr) (ticks : List Int) (len : Int), vs = [.ref a, .int len] ∧ SqL K H a (ticks.map V.int) ∧ ticks ≠ [] ∧ ticks.length ≤ 100000 ∧ nL H ((gapsRound ticks len).map V.int) Q
def spTick : Sp := fun vs H Q _ => ∃ (v : V) (f : Form) (n : Int), vs = [v, .int n] ∧ FormAt H v f ∧ 0 ≤ n ∧ f.round.length < 1000000 ∧ -(2 ^ 64) < f.len ∧ f.len < 2 ^ 64 ∧ ∀ H', Ex H H' → Q (optV (tickAt f n)) H'
def spCount : Sp := fun vs H Q _ => ∃ (v : V) (f : Form) (m : Int), vs = [v, .int m] ∧ FormAt H v f ∧ f.front.length < 1000000 ∧ f.round.length < 1000000 ∧ (f.round ≠ [] → 0 < f.len ∧ f.len < 1000000) ∧ ∀ H', Ex H H' → Q (.int (countAhead f m)) H'

theorem tickAt_some {f : Form} {n m : Int} (h0 : 0 ≤ n) (h : n < countAhead f m) : tickAt f n = some (tickZ f n) := by
  unfold tickZ
  cases e : tickAt f n with
  | some x => rfl
  | none =>
    unfold tickAt at e
    by_cases c : n < f.front.length
    · rw [if_pos c, List.getElem?_eq_getElem (by omega)] at e
      cases e
    · rw [if_neg c] at e
      by_cases d : f.round = []
      · unfold countAhead at h
        rw [if_pos (.inl d)] at h
        unfold countBelow at h
        have := List.length_filter_le (fun x => decide (x < m)) f.front
        omega
      · rw [if_neg d] at e
        cases e
theorem countAhead_nn {f : Form} {m : Int} (h : f.round ≠ [] → 0 < f.len) : 0 ≤ countAhead f m := by
  unfold countAhead countBelow
  split
  · omega
  · rename_i c
    have c1 : f.round ≠ [] := fun z => c (.inl z)
    have c2 : ¬ m ≤ f.round.headD 0 := fun z => c (.inr z)
    have h1 : 0 ≤ (m - f.round.headD 0) / f.len := Int.ediv_nonneg (by omega) (by have := h c1; omega)
    have h2 : 0 ≤ (m - f.round.headD 0) / f.len * (f.round.length : Int) := Int.mul_nonneg h1 (by omega)
    omega
def spAll (K : PySem.W.Frag) : Sp := fun vs H Q _ => ∃ (v : V) (f : Form) (m : Int), vs = [v, .int m] ∧ FormAt H v f ∧ f.front.length < 1000000 ∧ f.round.length < 1000000 ∧ (f.round ≠ [] → 0 < f.len) ∧ f.len < 1000000 ∧ -1 < f.len ∧ countAhead f m ≤ 1000000 ∧ nL H ((allAhead f m).map V.int) Q

theorem partOk_all {g : List Int} (h : g ≠ []) : partOk g g.length = true := by
  have hp : 0 < g.length := List.length_pos_iff.mpr h
  unfold partOk
  rw [Nat.mod_self, Nat.div_self hp, List.take_length]
  simp
theorem rep_map {g : List Int} {k n : Nat} : (List.replicate n ((g.map V.int).take k)).flatten = ((List.replicate n (g.take k)).flatten).map V.int := by
  rw [List.map_flatten, List.map_replicate, List.map_take]
theorem leastFrom_bd (g : List Int) : ∀ n k, leastFrom g n k ≤ n + k
  | 0, k => by unfold leastFrom; omega
  | n + 1, k => by
    unfold leastFrom
    split
    · omega
    · have := leastFrom_bd g n (k + 1)
      omega
theorem rev_last {l : List Int} (h : l ≠ []) : l.reverse = l.getLastD 0 :: l.dropLast.reverse := by
  have e : l = l.dropLast ++ [l.getLastD 0] := by
    rw [List.getLastD_eq_getLast?, List.getLast?_eq_some_getLast h]
    exact (List.dropLast_concat_getLast h).symm
  rw [e, List.reverse_append]
  simp
def spSettled (K : PySem.W.Frag) : Sp := fun vs H Q _ => ∃ (a b : Addr) (front ticks : List Int) (len : Int), vs = [.ref a, .ref b, .int len] ∧ SqL K H a (front.map V.int) ∧ SqL K H b (ticks.map V.int) ∧ front.length ≤ 100000 ∧ ticks.length ≤ 100000 ∧
  ∀ v H', Ex H H' → FormNew H H' v (settled front ticks len) → Q v H'

def spLater : Sp := fun vs H Q _ => ∃ (v : V) (f : Form) (m : Int), vs = [v, .int m] ∧ FormAt H v f ∧ f.front.length ≤ 100000 ∧ f.round.length ≤ 100000 ∧ ∀ v' H', Ex H H' → FormNew H H' v' (laterF f m) → Q v' H'
theorem tickAt_round {f : Form} {n : Int} (h : f.round ≠ []) (h0 : (f.front.length : Int) ≤ n) : tickAt f n = some (tickZ f n) := by
  unfold tickZ tickAt
  rw [if_neg (by omega), if_neg h]
  rfl
theorem rangeZ_succ (lo : Int) (i : Nat) : rangeZ lo (i + 1) = rangeZ lo i ++ [lo + (i : Int)] := by
  unfold rangeZ
  rw [List.range_succ, List.map_append]
  rfl
theorem keptFrom_outs (bits : List Bool) : ∀ (l : List Int) (k : Nat), outs (fun i => (l[i]?).bind fun x => if bitAt bits ((k + i : Nat) : Int) then some (V.int x) else none) l.length = (keptFrom bits k l).map V.int
  | [], _ => rfl
  | x :: r, k => by
    have ih := keptFrom_outs bits r (k + 1)
    unfold outs at ih ⊢
    rw [List.length_cons, List.range_succ_eq_map, List.filterMap_cons, List.filterMap_map]
    have e : (fun i => ((x :: r)[i]?).bind fun x => if bitAt bits ((k + i : Nat) : Int) then some (V.int x) else none) ∘ Nat.succ = fun i => (r[i]?).bind fun x => if bitAt bits ((k + 1 + i : Nat) : Int) then some (V.int x) else none := by
      funext i
      show (((x :: r)[i + 1]?).bind fun x => if bitAt bits ((k + (i + 1) : Nat) : Int) then some (V.int x) else none) = _
      rw [List.getElem?_cons_succ, show k + (i + 1) = k + 1 + i by omega]
    rw [e, ih]
    rw [keptFrom]
    cases hb : bitAt bits (k : Int) <;> simp [hb]
abbrev Small := Few
def spGated (C : Addr) : Sp := fun vs H Q E => ∃ (v : V) (f : Form) (bits : List Bool), vs = [v, .str (bitsStr bits)] ∧ FormAt H v f ∧ 1 ≤ bits.length ∧ bits.length ≤ 12 ∧ Small f ∧
  (∀ g, gated f bits = some g → ∀ v' H', Ex H H' → FormNew H H' v' g → Q v' H') ∧ (gated f bits = none → ∀ H', Ex H H' → E (.ref C) none H')

theorem sc_is_whole : FnScope ["thing", "least", "most"] ["thing", "least", "most"] (defScope s_is_whole) := ⟨rfl, rfl, rfl, by decide +kernel, rfl, by decide +kernel, by decide +kernel⟩
def spWhole (K : PySem.W.Frag) : Sp := fun vs H Q _ => ∃ (v : V) (d : PyData) (lo hi : Int), vs = [v, .int lo, .int hi] ∧ Dp K H v d ∧ Q (.bl (isWhole lo hi d)) H
theorem ok_is_whole {f : Addr} {fd : FuncData} (F : Fun K "is_whole" "is_whole" s_is_whole f fd) (B : Blt mg) : FnOk P w K mg base CX0 1 f fd ["thing", "least", "most"] (spWhole K) := by
  have nd := sc_is_whole.nd
  refine F.ok sc_is_whole (fun vs H Q E h => ?_) (fun cdv A outer s H vs Q E hr h => ?_)
  · obtain ⟨v, d, lo, hi, rfl, _⟩ := h
    rfl
  · obtain ⟨v, d, lo, hi, rfl, hd, q⟩ := h
    refine ⟨_, 
    (pss_one (ps_ret (pe_and (pe_callB (isiD (K := K) rfl) (by rfl) B.isinstance bt_isinstance (pa_cons (pv 0) (pa_cons (pe_bltn (v := .ty "int") (u := Value.type "int") (by rfl) B.int bt_int rfl) pa_nil))) (pe_and (pe_not (pe_callB (isiD (K := K) rfl) (by rfl) B.isinstance bt_isinstance (pa_cons (pv 0) (pa_cons (pe_bltn (v := .ty "bool") (u := Value.type "bool") (by rfl) B.bool bt_bool rfl) pa_nil)))) (pe_one (pe_chain op_le op_le (pv 1) (pv 0) (pv 2))))))), ?_⟩
    try dsimp only [cxOf, Cx.nox, Cx.wish]
    cases d with
    | int i =>
      cases hd
      walk_at "go"
      simp only [isA_tab]
      walk_at "go"
      have q : Q (.bl (decide (lo ≤ i) && decide (i ≤ hi))) H := q
      refine ite2 (fun c => ?_) (fun c => ?_)
      · walk_at "go"
        rw [c, Bool.true_and] at q
        exact q
      · rw [Bool.eq_false_iff.mpr c, Bool.false_and] at q
        exact q
    | bool b =>
      walk_at "go"
      simp only [isA_tab]
      walk_at "go"
      exact q
    | dict _ => cases hd
    | _ =>
      walk_at "go"
      simp only [isA_tab]
      exact q
theorem sc_are_signs : FnScope ["thing", "sign"] ["thing"] (defScope s_are_signs) := ⟨rfl, rfl, rfl, by decide +kernel, rfl, by decide +kernel, by decide +kernel⟩
def textSmall : PyData → Bool
  | .str s => decide (s.length ≤ 1000000) && PyData.strOk s
  | _ => true
theorem inV_sign (c : Nat) : inV (V.str ⟨#[c]⟩) [.str "0", .str "1"] = signOk c := by
  unfold inV signOk
  have h0 : eqV (.str "0") (V.str ⟨#[c]⟩) = (c == 48) := by
    show ((Str.ofString "0" == (⟨#[c]⟩ : Str)) : Bool) = _
    rw [show Str.ofString "0" = (⟨#[48]⟩ : Str) by decide +kernel]
    by_cases h : c = 48
    · subst h; decide
    · rw [beq_eq_false_iff_ne.mpr h, beq_eq_false_iff_ne]
      intro z
      injection z with z
      simp at z
      exact h z.symm
  have h1 : eqV (.str "1") (V.str ⟨#[c]⟩) = (c == 49) := by
    show ((Str.ofString "1" == (⟨#[c]⟩ : Str)) : Bool) = _
    rw [show Str.ofString "1" = (⟨#[49]⟩ : Str) by decide +kernel]
    by_cases h : c = 49
    · subst h; decide
    · rw [beq_eq_false_iff_ne.mpr h, beq_eq_false_iff_ne]
      intro z
      injection z with z
      simp at z
      exact h z.symm
  simp only [List.any_cons, List.any_nil, Bool.or_false, h0, h1]
theorem dpAll_chars {K : PySem.W.Frag} {H : Hp} : ∀ l : List Nat, DpAll K H (l.map fun c => V.str ⟨#[c]⟩) (l.map fun c => PyData.str ⟨#[c]⟩)
  | [] => .nil
  | c :: r => .cons (.str _) (dpAll_chars r)
theorem shaped_chars {l : List Nat} (h : ∀ c ∈ l, c < 0x110000) : SeqAt.shaped (.list (l.map fun c => PyData.str ⟨#[c]⟩)) = true := by
  refine (shaped_of fun d hd => ?_).1
  obtain ⟨c, hc, rfl⟩ := List.mem_map.mp hd
  refine ⟨?_, by simp [PyData.depth]⟩
  simp [PyData.canLay0, PyData.strOk, h c hc]
def spSigns (K : PySem.W.Frag) : Sp := fun vs H Q _ => ∃ (v : V) (d : PyData), vs = [v] ∧ Dp K H v d ∧ textSmall d = true ∧ ∀ H', Ex H H' → Q (.bl (areSigns d)) H'
theorem ok_are_signs {f : Addr} {fd : FuncData} (F : Fun K "are_signs" "are_signs" s_are_signs f fd) (B : Blt mg) {rS : Addr} (g_SIGNS : ∃ u, mg "SIGNS" = some u ∧ RelV (.ref rS) u) (q_SIGNS : ∀ H : Hp, SqT K H rS [.str "0", .str "1"])
    (g_MOST_DIVIDED : ∃ u, mg "MOST_DIVIDED" = some u ∧ RelV (.int 12) u) : FnOk P w K mg base CX0 1 f fd ["thing"] (spSigns K) := by
  have nd := sc_are_signs.nd
  refine F.ok sc_are_signs (fun vs H Q E h => ?_) (fun cdv A outer s H vs Q E hr h => ?_)
  · obtain ⟨v, d, rfl, _⟩ := h
    rfl
  · obtain ⟨v, d, rfl, hd, hz, q⟩ := h
    refine ⟨_, 
    (pss_cons (ps_if (PW.pt (pw_or (pt_not (pt_val (pe_callB (isiD (K := K) rfl) (by rfl) B.isinstance bt_isinstance (pa_cons (pv 0) (pa_cons (pe_bltn (v := .ty "str") (u := Value.type "str") (by rfl) B.str bt_str rfl) pa_nil))))) (pw_or1 (pt_not (pt_chain op_le op_le pe_int (pe_callB call_len_str (by rfl) B.len PySem.boot_len (pa_cons (pv 0) pa_nil)) (pe_gl rfl g_MOST_DIVIDED)))))) (pss_one (ps_ret pe_bl)) pss_nil)
    (pss_one (ps_ret (pe_cmp (eqNilD (K := K) rfl hr.units (pe_lc (own := [("sign", 1)]) (g := gName 1) rfl nd (pi_str (pv 0)) (blkOk_by (N := ["thing", "sign"]) (sc := defScope s_are_signs) (by decide +kernel)) (fun _ _ _ _ _ => pg_name (i := 1) nd rfl (Or.inl rfl)) (fun _ _ _ _ _ => (pts_one (pt_cmpR (niK (K := K) rfl) (pv 1) (pe_gl rfl g_SIGNS) (by rfl)))) (fun _ _ _ _ _ => (pv 1)))))))), ?_⟩
    try dsimp only [cxOf, Cx.nox, Cx.wish]
    cases d with
    | str x =>
      cases hd
      walk_at "go"
      simp only [isA_tab]
      have hz : (decide (x.length ≤ 1000000) && PyData.strOk x) = true := hz
      rw [Bool.and_eq_true] at hz
      obtain ⟨hz, hk⟩ := hz
      have hz : x.length ≤ 1000000 := of_decide_eq_true hz
      have q : ∀ H', Ex H H' → Q (.bl (decide (1 ≤ x.length) && decide (x.length ≤ 12) && x.cps.toList.all signOk)) H' := q
      have hs2 : x.length ≤ sizeLine := Nat.le_trans hz (by decide)
      refine ⟨hs2, ?_⟩
      walk_at "go"
      refine ite2 (fun c => ?_) (fun c => ?_)
      · walk_at "go"
        refine ite2 (fun c2 => ?_) (fun c2 => ?_)
        · have c2 := of_bnot c2
          rw [decide_eq_false (show ¬ x.length ≤ 12 by omega), Bool.and_false, Bool.false_and] at q
          walk_at "go"
          exact q _ (by walk_at "ex")
        · have c := of_decide_eq_true c
          have c2 := not_bnot c2
          rw [decide_eq_true (show 1 ≤ x.length by omega), decide_eq_true (show x.length ≤ 12 by omega), Bool.and_true, Bool.true_and] at q
          walk_at "go"
          refine lc_out (fun i => (x.cps[i]?).bind fun c => if (!signOk c) = true then some (.str ⟨#[c]⟩) else none) Goes.str (by show x.length ≤ 1000000; omega) ?_ ?_
          · rintro i y H' hi e ⟨c, hc, rfl⟩ R hR
            refine ⟨rfl, ?_⟩
            walk_at "go"
            refine ⟨rS, _, rfl, .inr (q_SIGNS _), rfl, rfl, ?_⟩
            walk_at "go"
            rw [inV_sign]
            refine ite2 (fun c3 => ?_) (fun c3 => ?_)
            · walk_at "go"
              exact hR _ _ (by rw [hc]; exact if_pos c3) (by walk_at "ex")
            · exact hR _ _ (by rw [hc]; exact if_neg c3) (by walk_at "ex")
          intro p2 H2 np e2 hp
          rw [show x.cps.size = x.cps.toList.length by simp, outs_filter (p := fun c => !signOk c) (f := fun c => V.str ⟨#[c]⟩) (l := x.cps.toList) (fun i c hc => by
            have hc' : x.cps[i]? = some c := by rw [← hc]; simp
            show ((x.cps[i]?).bind _) = _
            rw [hc']
            rfl)] at hp
          refine ⟨_, _, rfl, .lst (.of hp) (dpAll_chars _), shaped_chars fun c hc => ?_, ?_⟩
          · have h1 := (List.mem_filter.mp hc).1
            have := (Array.all_eq_true_iff_forall_mem.mp hk) c (by simpa using h1)
            simpa using this
          walk_at "go"
          have ee : (List.map (fun c => PyData.str ⟨#[c]⟩) (List.filter (fun c => !signOk c) x.cps.toList)).isEmpty = x.cps.toList.all signOk := by
            generalize x.cps.toList = l
            induction l with
            | nil => rfl
            | cons c r ih =>
              cases h : signOk c <;> simp [h] at ih ⊢
              exact ih
          rw [ee]
          exact q _ (by walk_at "ex")
      · walk_at "go"
        have c := not_dec c
        rw [decide_eq_false (show ¬ 1 ≤ x.length by omega), Bool.false_and, Bool.false_and] at q
        exact q _ (by walk_at "ex")
    | dict _ => cases hd
    | _ =>
      walk_at "go"
      simp only [isA_tab]
      exact q _ (by walk_at "ex")
def InnerAt (K : PySem.W.Frag) (H0 H H' : Hp) (r : V) : Option (List PyData) → Prop
  | none => r = .non
  | some ds => ∃ p vs, r = .ref p ∧ H p = none ∧ H' p = some (.lst vs) ∧ DpAll K H0 vs ds
def dGood (d : PyData) : Bool := SeqAt.shaped d && headFlat d && (match d with | .tuple ds => ds.all textSmall | _ => true)
theorem sc_is_every : FnScope ["beat"] ["beat"] (defScope s_is_every) := ⟨rfl, rfl, rfl, by decide +kernel, rfl, by decide +kernel, by decide +kernel⟩
def spEvery (K : PySem.W.Frag) : Sp := fun vs H Q _ => ∃ (v : V) (ds : List PyData), vs = [v] ∧ Dp K H v (.tuple ds) ∧ 3 ≤ ds.length ∧ Q (.bl (isEvery ds)) H
theorem ok_is_every {f : Addr} {fd : FuncData} (F : Fun K "is_every" "is_every" s_is_every f fd) (g_MOST_DIVIDED : ∃ u, mg "MOST_DIVIDED" = some u ∧ RelV (.int 12) u) (c_is_whole : Dn P w K mg base 1 "is_whole" (spWhole K)) : FnOk P w K mg base CX0 2 f fd ["beat"] (spEvery K) := by
  have nd := sc_is_every.nd
  refine F.ok sc_is_every (fun vs H Q E h => ?_) (fun cdv A outer s H vs Q E hr h => ?_)
  · obtain ⟨v, ds, rfl, _⟩ := h
    rfl
  · obtain ⟨v, ds, rfl, hd, hl, q⟩ := h
    cases hd with
    | tup hs ha =>
    refine ⟨_, 
    (pss_one (ps_ret (pe_and (pe_d c_is_whole hr (by decide) passL (by rfl) (pa_cons (pe_ix (ixt (K := K) rfl) (pv 0) pe_int (fun _ _ => rfl)) (pa_cons pe_int (pa_cons (pe_gl rfl g_MOST_DIVIDED) pa_nil)))) (pe_one (pe_d c_is_whole hr (by decide) passL (by rfl) (pa_cons (pe_ix (ixt (K := K) rfl) (pv 0) pe_int (fun _ _ => rfl)) (pa_cons pe_int (pa_cons (pe_op op_sub (pe_ix (ixt (K := K) rfl) (pv 0) pe_int (fun _ _ => rfl)) pe_int) pa_nil)))))))), ?_⟩
    try dsimp only [cxOf, Cx.nox, Cx.wish]
    obtain ⟨v1, a1, d1⟩ := dpAll_atD ha 1 (by omega)
    obtain ⟨v2, a2, d2⟩ := dpAll_atD ha 2 (by omega)
    have q : Q (.bl (isWhole 1 12 (atD ds 1) && isWhole 0 (intD (atD ds 1) - 1) (atD ds 2))) H := q
    walk_at "go"
    refine ⟨_, _, _, _, rfl, rfl, hs, a1, ?_⟩
    walk_at "go"
    refine ⟨v1, _, _, _, rfl, d1, _, rfl, ?_⟩
    refine ite2 (fun c => ?_) (fun c => ?_)
    · rw [c, Bool.true_and] at q
      obtain ⟨i, hi⟩ : ∃ i, atD ds 1 = .int i := by
        cases hh : atD ds 1 with
        | int i => exact ⟨i, rfl⟩
        | _ => rw [hh] at c; cases c
      rw [hi] at d1 q
      cases d1
      walk_at "go"
      refine ⟨_, _, _, _, rfl, rfl, hs, a2, ?_⟩
      walk_at "go"
      refine ⟨_, _, _, _, rfl, rfl, hs, a1, ?_⟩
      walk_at "go"
      exact ⟨v2, _, _, _, rfl, d2, q⟩
    · rw [Bool.eq_false_iff.mpr c, Bool.false_and] at q
      exact q
theorem sc_inner_of : FnScope ["beat", "word"] ["beat"] (defScope s_inner_of) := ⟨rfl, rfl, rfl, by decide +kernel, rfl, by decide +kernel, by decide +kernel⟩
theorem tIfS_cut {tt : TT} {A B : TS} {D : Ends} {σ : L2.St} {H : Hp} (b : Bool) (h1 : ∀ Q' : Bool → Hp → Prop, (∀ H', Ex H H' → Q' b H') → tt σ H Q') (h2 : ∀ H', Ex H H' → if b = true then A D σ H' else B D σ H') : tIfS tt A B D σ H := h1 _ h2
theorem leafT {Q' : Bool → Hp → Prop} {b b' : Bool} {H H' : Hp} (hq : ∀ H', Ex H H' → Q' b H') (e : Ex H H') (h : b = b') : Q' b' H' := h ▸ hq _ e
def spInner (K : PySem.W.Frag) : Sp := fun vs H Q _ => ∃ (v : V) (d : PyData) (H0 : Hp), vs = [v] ∧ Ex H0 H ∧ Dp K H0 v d ∧ dGood d = true ∧ ∀ r H', Ex H H' → InnerAt K H0 H H' r (innerOf d) → Q r H'
theorem ok_inner_of {f : Addr} {fd : FuncData} (F : Fun K "inner_of" "inner_of" s_inner_of f fd) (B : Blt mg) {rO : Addr} (g_OF_TWO : ∃ u, mg "OF_TWO" = some u ∧ RelV (.ref rO) u) (q_OF_TWO : ∀ H : Hp, SqT K H rO [.str "either", .str "both", .str "but"])
    (g_MOST_LATER : ∃ u, mg "MOST_LATER" = some u ∧ RelV (.int 99) u) (g_MOST_LED : ∃ u, mg "MOST_LED" = some u ∧ RelV (.int 9999) u)
    (c_is_whole : Dn P w K mg base 1 "is_whole" (spWhole K)) (c_are_signs : Dn P w K mg base 1 "are_signs" (spSigns K)) (c_is_every : Dn P w K mg base 2 "is_every" (spEvery K)) : FnOk P w K mg base CX0 3 f fd ["beat"] (spInner K) := by
  have nd := sc_inner_of.nd
  refine F.ok sc_inner_of (fun vs H Q E h => ?_) (fun cdv A outer s H vs Q E hr h => ?_)
  · obtain ⟨v, ds, H0, rfl, _⟩ := h
    rfl
  · obtain ⟨v, d, H0, rfl, e0, hd', hg, q⟩ := h
    have hd := e0.dp hd'
    refine ⟨_, 
    (pss_cons (ps_if (PW.pt (pw_or (pt_not (pt_val (pe_callB (isiD (K := K) rfl) (by rfl) B.isinstance bt_isinstance (pa_cons (pv 0) (pa_cons (pe_bltn (v := .ty "tuple") (u := Value.type "tuple") (by rfl) B.tuple bt_tuple rfl) pa_nil))))) (pw_or1 (pt_cmpR (eqD (K := K) rfl hr.units) (pv 0) (pe_tupN pa_nil) (nomark _))))) (pss_one (ps_ret pe_non)) pss_nil)
    (pss_cons (ps_set (i := 1) nd rfl (Or.inl rfl) (pe_ix (ixt (K := K) rfl) (pv 0) pe_int (fun _ _ => rfl)))
    (pss_cons (ps_if (PW.pt (pw_and (pt_cmpR (eqD (K := K) rfl hr.units) (pv 1) pe_str (nomark _)) (pw_and1 (pt_cmpR op_eq (pe_callB (lenK (K := K) rfl) (by rfl) B.len PySem.boot_len (pa_cons (pv 0) pa_nil)) pe_int (nomark _))))) (pss_one (ps_ret (pe_lstN pa_nil))) pss_nil)
    (pss_cons (ps_if (PW.pt (pw_and (pt_cmpR (eqD (K := K) rfl hr.units) (pv 1) pe_str (nomark _)) (pw_and (pt_cmpR op_eq (pe_callB (lenK (K := K) rfl) (by rfl) B.len PySem.boot_len (pa_cons (pv 0) pa_nil)) pe_int (nomark _)) (pw_and1 (pt_val (pe_d c_is_every hr (by decide) passL (by rfl) (pa_cons (pv 0) pa_nil))))))) (pss_one (ps_ret (pe_lstN (pa_cons (pe_ix (ixt (K := K) rfl) (pv 0) pe_int (fun _ _ => rfl)) pa_nil)))) pss_nil)
    (pss_cons (ps_if (PW.pt (pw_and (pt_cmpR (eqD (K := K) rfl hr.units) (pv 1) pe_str (nomark _)) (pw_and (pt_cmpR op_eq (pe_callB (lenK (K := K) rfl) (by rfl) B.len PySem.boot_len (pa_cons (pv 0) pa_nil)) pe_int (nomark _)) (pw_and1 (pt_val (pe_d c_are_signs hr (by decide) passL (by rfl) (pa_cons (pe_ix (ixt (K := K) rfl) (pv 0) pe_int (fun _ _ => rfl)) pa_nil))))))) (pss_one (ps_ret (pe_lstN (pa_cons (pe_ix (ixt (K := K) rfl) (pv 0) pe_int (fun _ _ => rfl)) pa_nil)))) pss_nil)
    (pss_cons (ps_if (PW.pt (pw_and (pt_cmpR (eqD (K := K) rfl hr.units) (pv 1) pe_str (nomark _)) (pw_and (pt_cmpR op_eq (pe_callB (lenK (K := K) rfl) (by rfl) B.len PySem.boot_len (pa_cons (pv 0) pa_nil)) pe_int (nomark _)) (pw_and1 (pt_val (pe_d c_is_whole hr (by decide) passL (by rfl) (pa_cons (pe_ix (ixt (K := K) rfl) (pv 0) pe_int (fun _ _ => rfl)) (pa_cons pe_int (pa_cons (pe_gl rfl g_MOST_LATER) pa_nil))))))))) (pss_one (ps_ret (pe_lstN (pa_cons (pe_ix (ixt (K := K) rfl) (pv 0) pe_int (fun _ _ => rfl)) pa_nil)))) pss_nil)
    (pss_cons (ps_if (PW.pt (pw_and (pt_cmpR (inK (K := K) rfl) (pv 1) (pe_gl rfl g_OF_TWO) (by rfl)) (pw_and1 (pt_cmpR op_eq (pe_callB (lenK (K := K) rfl) (by rfl) B.len PySem.boot_len (pa_cons (pv 0) pa_nil)) pe_int (nomark _))))) (pss_one (ps_ret (pe_lstN (pa_cons (pe_ix (ixt (K := K) rfl) (pv 0) pe_int (fun _ _ => rfl)) (pa_cons (pe_ix (ixt (K := K) rfl) (pv 0) pe_int (fun _ _ => rfl)) pa_nil))))) pss_nil)
    (pss_cons (ps_if (PW.pt (pw_and (pt_cmpR (eqD (K := K) rfl hr.units) (pv 1) pe_str (nomark _)) (pw_and (pt_cmpR op_eq (pe_callB (lenK (K := K) rfl) (by rfl) B.len PySem.boot_len (pa_cons (pv 0) pa_nil)) pe_int (nomark _)) (pw_and (pt_val (pe_d c_is_whole hr (by decide) passL (by rfl) (pa_cons (pe_ix (ixt (K := K) rfl) (pv 0) pe_int (fun _ _ => rfl)) (pa_cons pe_int (pa_cons (pe_gl rfl g_MOST_LED) pa_nil))))) (pw_and1 (pt_val (pe_d c_is_whole hr (by decide) passL (by rfl) (pa_cons (pe_ix (ixt (K := K) rfl) (pv 0) pe_int (fun _ _ => rfl)) (pa_cons pe_int (pa_cons (pe_gl rfl g_MOST_LED) pa_nil)))))))))) (pss_one (ps_ret (pe_lstN (pa_cons (pe_ix (ixt (K := K) rfl) (pv 0) pe_int (fun _ _ => rfl)) (pa_cons (pe_ix (ixt (K := K) rfl) (pv 0) pe_int (fun _ _ => rfl)) pa_nil))))) pss_nil)
    (pss_one (ps_ret pe_non)))))))))), ?_⟩
    try dsimp only [cxOf, Cx.nox, Cx.wish]
    unfold dGood at hg
    rw [Bool.and_eq_true, Bool.and_eq_true] at hg
    obtain ⟨⟨hsh, hf⟩, hts⟩ := hg
    -- no tuple, or the empty one
    have no : innerOf d = none → Q .non H := fun e => q _ _ (Ex.refl _) (by rw [e]; rfl)
    refine tIfS_cut (match d with | .tuple ds => ds.isEmpty | _ => true) ?_ ?_
    · intro Q' hq
      cases d with
      | tuple ds =>
        walk_at "go"
        refine nT_intro fun p H2 np e2 hp => ?_
        walk_at "go"
        refine ⟨.tuple ds, .tuple [], e2.dp hd, .tup (.of hp) .nil, hsh, by decide +kernel, ?_⟩
        rw [eqv_nilT]
        walk_at "go"
        exact hq _ (by walk_at "ex")
      | dict _ => cases hd
      | _ =>
        walk_at "go"
        try simp only [isA_tab]
        walk_at "go"
        exact hq _ (by walk_at "ex")
    intro H1 e1
    cases d with
    | tuple ds =>
      refine ite2 (fun c => ?_) (fun c => ?_)
      · have c : ds.isEmpty = true := c
        walk_at "go"
        exact q _ _ e1 (by show InnerAt K H0 H H1 _ (innerT ds); unfold innerT; rw [if_pos c]; rfl)
      have hne : ¬ ds.isEmpty = true := c
      have hpos : 0 < ds.length := by
        cases ds with
        | nil => exact absurd rfl hne
        | cons _ _ => exact Nat.succ_pos _
      have q : ∀ r H', Ex H H' → InnerAt K H0 H H' r (innerT ds) → Q r H' := q
      unfold innerT at q
      rw [if_neg hne] at q
      have hd0 := hd
      cases hd' with
      | @tup a xs _ hs' ha' =>
      have hs := e0.sqT hs'
      have ha := e0.dpAll ha'
      have hlen := dpAll_len ha
      have L : ∀ k : Nat, decide (V.int (xs.length : Int) = V.int (k : Int)) = decide (ds.length = k) := fun k => by
        rw [hlen]
        refine decide_eq_decide.mpr ⟨fun z => ?_, fun z => by rw [z]⟩
        have z : ((ds.length : Nat) : Int) = (k : Int) := V.int.inj z
        omega
      obtain ⟨w0, a0, d0⟩ := dpAll_atD ha 0 hpos
      have sh : ∀ i, i < ds.length → SeqAt.shaped (atD ds i) = true := fun i hi => by
        refine shaped_of_mem hsh _ ?_
        unfold atD
        rw [List.getD_eq_getElem?_getD, List.getElem?_eq_getElem hi]
        exact List.getElem_mem _
      have hw : flatD (atD ds 0) = true := by
        cases ds with
        | nil => exact absurd rfl hne
        | cons _ _ => exact hf
      have hsm : ∀ i, i < ds.length → textSmall (atD ds i) = true := fun i hi => by
        refine List.all_eq_true.mp hts _ ?_
        unfold atD
        rw [List.getD_eq_getElem?_getD, List.getElem?_eq_getElem hi]
        exact List.getElem_mem _
      have sh0 := sh 0 hpos
      walk_at "go"
      refine ⟨_, _, _, _, rfl, rfl, e1.sqT hs, a0, ?_⟩
      have D0 : ∀ {H'}, Ex H H' → Dp K H' w0 (atD ds 0) := fun e => e.dp d0
      dsimp only [gName]
      -- the source
      refine tIfS_cut (isWord "source" (atD ds 0) && decide (ds.length = 1)) ?_ ?_
      · intro Q' hq
        walk_at "go"
        refine ⟨_, .str "source", D0 e1, .str _, sh0, by decide +kernel, ?_⟩
        walk_at "go"
        refine ite2 (fun c => ?_) (fun c => ?_)
        · have c : isWord "source" (atD ds 0) = true := c
          refine ⟨_, rfl, _, _, rfl, .inr (e1.sqT hs), ?_⟩
          walk_at "go"
          exact leafT hq (by walk_at "ex") (by rw [c, Bool.true_and]; exact (L 1).symm)
        · have c : ¬ isWord "source" (atD ds 0) = true := c
          exact leafT hq (by walk_at "ex") (by rw [Bool.eq_false_iff.mpr c, Bool.false_and])
      intro H2 e2
      refine ite2 (fun c => ?_) (fun c => ?_)
      · rw [if_pos c] at q
        walk_at "go"
        refine nL_intro fun p H3 np e3 hp => ?_
        exact q _ _ (by walk_at "ex") ⟨p, [], rfl, by walk_at "fresh", hp, .nil⟩
      rw [if_neg c] at q
      dsimp only [tNext]
      have ee2 : Ex H H2 := by walk_at "ex"
      refine tIfS_cut (isWord "every" (atD ds 0) && decide (ds.length = 4) && isEvery ds) ?_ ?_
      · intro Q' hq
        walk_at "go"
        refine ⟨_, .str "every", D0 ee2, .str _, sh0, by decide +kernel, ?_⟩
        walk_at "go"
        refine ite2 (fun c => ?_) (fun c => ?_)
        · have c : (isWord "every" (atD ds 0)) = true := c
          rw [c] at hq
          refine ⟨_, rfl, _, _, rfl, .inr (ee2.sqT hs), ?_⟩
          walk_at "go"
          refine ite2 (fun c2 => ?_) (fun c2 => ?_)
          · have c2 : decide (ds.length = 4) = true := (L 4) ▸ c2
            have hn : ds.length = 4 := of_decide_eq_true c2
            rw [c2] at hq
            walk_at "go"
            refine ⟨_, ds, rfl, ee2.dp hd0, by omega, _, rfl, ?_⟩
            exact leafT hq (by walk_at "ex") (by simp only [Bool.true_and])
          · have c2 : ¬ decide (ds.length = 4) = true := fun z => c2 ((L 4).symm ▸ z)
            exact leafT hq (by walk_at "ex") (by rw [Bool.eq_false_iff.mpr c2]; simp only [Bool.true_and, Bool.and_false, Bool.false_and])
        · have c : ¬ (isWord "every" (atD ds 0)) = true := c
          exact leafT hq (by walk_at "ex") (by rw [Bool.eq_false_iff.mpr c]; simp only [Bool.false_and])
      intro H3 e3
      refine ite2 (fun c => ?_) (fun c => ?_)
      · rw [if_pos c] at q
        have hn : ds.length = 4 := by
          simp only [Bool.and_eq_true, decide_eq_true_eq] at c
          omega
        have ex0 : Ex H H3 := by walk_at "ex"
        obtain ⟨v3, a3, d3⟩ := dpAll_atD ha' 3 (by omega)
        walk_at "go"
        refine ⟨_, _, _, _, rfl, rfl, ex0.sqT hs, a3, ?_⟩
        walk_at "go"
        refine nL_intro fun p H3 np e3 hp => ?_
        exact q _ _ (ex0.trans e3) ⟨p, _, rfl, ex0.back np, hp, .cons d3 (.nil)⟩
      rw [if_neg c] at q
      dsimp only [tNext]
      have ee3 : Ex H H3 := by walk_at "ex"
      refine tIfS_cut (isWord "gate" (atD ds 0) && decide (ds.length = 3) && areSigns (atD ds 1)) ?_ ?_
      · intro Q' hq
        walk_at "go"
        refine ⟨_, .str "gate", D0 ee3, .str _, sh0, by decide +kernel, ?_⟩
        walk_at "go"
        refine ite2 (fun c => ?_) (fun c => ?_)
        · have c : (isWord "gate" (atD ds 0)) = true := c
          rw [c] at hq
          refine ⟨_, rfl, _, _, rfl, .inr (ee3.sqT hs), ?_⟩
          walk_at "go"
          refine ite2 (fun c2 => ?_) (fun c2 => ?_)
          · have c2 : decide (ds.length = 3) = true := (L 3) ▸ c2
            have hn : ds.length = 3 := of_decide_eq_true c2
            rw [c2] at hq
            walk_at "go"
            obtain ⟨v1, a1, d1⟩ := dpAll_atD ha 1 (by omega)
            refine ⟨_, _, _, _, rfl, rfl, ee3.sqT hs, a1, ?_⟩
            walk_at "go"
            refine ⟨v1, _, rfl, ee3.dp d1, hsm 1 (by omega), fun H9 e9 => ⟨_, rfl, ?_⟩⟩
            exact leafT hq (by walk_at "ex") (by simp only [Bool.true_and])
          · have c2 : ¬ decide (ds.length = 3) = true := fun z => c2 ((L 3).symm ▸ z)
            exact leafT hq (by walk_at "ex") (by rw [Bool.eq_false_iff.mpr c2]; simp only [Bool.true_and, Bool.and_false, Bool.false_and])
        · have c : ¬ (isWord "gate" (atD ds 0)) = true := c
          exact leafT hq (by walk_at "ex") (by rw [Bool.eq_false_iff.mpr c]; simp only [Bool.false_and])
      intro H4 e4
      refine ite2 (fun c => ?_) (fun c => ?_)
      · rw [if_pos c] at q
        have hn : ds.length = 3 := by
          simp only [Bool.and_eq_true, decide_eq_true_eq] at c
          omega
        have ex0 : Ex H H4 := by walk_at "ex"
        obtain ⟨v2, a2, d2⟩ := dpAll_atD ha' 2 (by omega)
        walk_at "go"
        refine ⟨_, _, _, _, rfl, rfl, ex0.sqT hs, a2, ?_⟩
        walk_at "go"
        refine nL_intro fun p H3 np e3 hp => ?_
        exact q _ _ (ex0.trans e3) ⟨p, _, rfl, ex0.back np, hp, .cons d2 (.nil)⟩
      rw [if_neg c] at q
      dsimp only [tNext]
      have ee4 : Ex H H4 := by walk_at "ex"
      refine tIfS_cut (isWord "later" (atD ds 0) && decide (ds.length = 3) && isWhole 0 99 (atD ds 1)) ?_ ?_
      · intro Q' hq
        walk_at "go"
        refine ⟨_, .str "later", D0 ee4, .str _, sh0, by decide +kernel, ?_⟩
        walk_at "go"
        refine ite2 (fun c => ?_) (fun c => ?_)
        · have c : (isWord "later" (atD ds 0)) = true := c
          rw [c] at hq
          refine ⟨_, rfl, _, _, rfl, .inr (ee4.sqT hs), ?_⟩
          walk_at "go"
          refine ite2 (fun c2 => ?_) (fun c2 => ?_)
          · have c2 : decide (ds.length = 3) = true := (L 3) ▸ c2
            have hn : ds.length = 3 := of_decide_eq_true c2
            rw [c2] at hq
            walk_at "go"
            obtain ⟨v1, a1, d1⟩ := dpAll_atD ha 1 (by omega)
            refine ⟨_, _, _, _, rfl, rfl, ee4.sqT hs, a1, ?_⟩
            walk_at "go"
            refine ⟨v1, _, _, _, rfl, ee4.dp d1, _, rfl, ?_⟩
            exact leafT hq (by walk_at "ex") (by simp only [Bool.true_and])
          · have c2 : ¬ decide (ds.length = 3) = true := fun z => c2 ((L 3).symm ▸ z)
            exact leafT hq (by walk_at "ex") (by rw [Bool.eq_false_iff.mpr c2]; simp only [Bool.true_and, Bool.and_false, Bool.false_and])
        · have c : ¬ (isWord "later" (atD ds 0)) = true := c
          exact leafT hq (by walk_at "ex") (by rw [Bool.eq_false_iff.mpr c]; simp only [Bool.false_and])
      intro H5 e5
      refine ite2 (fun c => ?_) (fun c => ?_)
      · rw [if_pos c] at q
        have hn : ds.length = 3 := by
          simp only [Bool.and_eq_true, decide_eq_true_eq] at c
          omega
        have ex0 : Ex H H5 := by walk_at "ex"
        obtain ⟨v2, a2, d2⟩ := dpAll_atD ha' 2 (by omega)
        walk_at "go"
        refine ⟨_, _, _, _, rfl, rfl, ex0.sqT hs, a2, ?_⟩
        walk_at "go"
        refine nL_intro fun p H3 np e3 hp => ?_
        exact q _ _ (ex0.trans e3) ⟨p, _, rfl, ex0.back np, hp, .cons d2 (.nil)⟩
      rw [if_neg c] at q
      dsimp only [tNext]
      have ee5 : Ex H H5 := by walk_at "ex"
      refine tIfS_cut ((isWord "either" (atD ds 0) || isWord "both" (atD ds 0) || isWord "but" (atD ds 0)) && decide (ds.length = 3)) ?_ ?_
      · intro Q' hq
        walk_at "go"
        refine ⟨rO, _, rfl, .inr (q_OF_TWO _), flat_of d0 hw, rfl, ?_⟩
        rw [show (if false = true then !inV w0 [V.str "either", V.str "both", V.str "but"] else inV w0 [V.str "either", V.str "both", V.str "but"]) = (isWord "either" (atD ds 0) || isWord "both" (atD ds 0) || isWord "but" (atD ds 0)) from inV_three d0 _ _ _]
        walk_at "go"
        refine ite2 (fun c => ?_) (fun c => ?_)
        · have c : ((isWord "either" (atD ds 0) || isWord "both" (atD ds 0) || isWord "but" (atD ds 0))) = true := c
          rw [c] at hq
          refine ⟨_, rfl, _, _, rfl, .inr (ee5.sqT hs), ?_⟩
          walk_at "go"
          exact leafT hq (by walk_at "ex") (by rw [Bool.true_and]; exact (L 3).symm)
        · have c : ¬ ((isWord "either" (atD ds 0) || isWord "both" (atD ds 0) || isWord "but" (atD ds 0))) = true := c
          exact leafT hq (by walk_at "ex") (by rw [Bool.eq_false_iff.mpr c]; simp only [Bool.false_and])
      intro H6 e6
      refine ite2 (fun c => ?_) (fun c => ?_)
      · rw [if_pos c] at q
        have hn : ds.length = 3 := by
          simp only [Bool.and_eq_true, decide_eq_true_eq] at c
          omega
        have ex0 : Ex H H6 := by walk_at "ex"
        obtain ⟨v1, a1, d1⟩ := dpAll_atD ha' 1 (by omega)
        obtain ⟨v2, a2, d2⟩ := dpAll_atD ha' 2 (by omega)
        walk_at "go"
        refine ⟨_, _, _, _, rfl, rfl, ex0.sqT hs, a1, ?_⟩
        walk_at "go"
        refine ⟨_, _, _, _, rfl, rfl, ex0.sqT hs, a2, ?_⟩
        walk_at "go"
        refine nL_intro fun p H3 np e3 hp => ?_
        exact q _ _ (ex0.trans e3) ⟨p, _, rfl, ex0.back np, hp, .cons d1 (.cons d2 (.nil))⟩
      rw [if_neg c] at q
      dsimp only [tNext]
      have ee6 : Ex H H6 := by walk_at "ex"
      refine tIfS_cut (isWord "led" (atD ds 0) && decide (ds.length = 5) && isWhole 0 9999 (atD ds 2) && isWhole 0 9999 (atD ds 4)) ?_ ?_
      · intro Q' hq
        walk_at "go"
        refine ⟨_, .str "led", D0 ee6, .str _, sh0, by decide +kernel, ?_⟩
        walk_at "go"
        refine ite2 (fun c => ?_) (fun c => ?_)
        · have c : (isWord "led" (atD ds 0)) = true := c
          rw [c] at hq
          refine ⟨_, rfl, _, _, rfl, .inr (ee6.sqT hs), ?_⟩
          walk_at "go"
          refine ite2 (fun c2 => ?_) (fun c2 => ?_)
          · have c2 : decide (ds.length = 5) = true := (L 5) ▸ c2
            have hn : ds.length = 5 := of_decide_eq_true c2
            rw [c2] at hq
            walk_at "go"
            obtain ⟨v2, a2, d2⟩ := dpAll_atD ha 2 (by omega)
            refine ⟨_, _, _, _, rfl, rfl, ee6.sqT hs, a2, ?_⟩
            walk_at "go"
            refine ⟨v2, _, _, _, rfl, ee6.dp d2, _, rfl, ?_⟩
            refine ite2 (fun c3 => ?_) (fun c3 => ?_)
            · have c3 : (isWhole 0 9999 (atD ds 2)) = true := c3
              rw [c3] at hq
              walk_at "go"
              obtain ⟨v4, a4, d4⟩ := dpAll_atD ha 4 (by omega)
              refine ⟨_, _, _, _, rfl, rfl, ee6.sqT hs, a4, ?_⟩
              walk_at "go"
              refine ⟨v4, _, _, _, rfl, ee6.dp d4, _, rfl, ?_⟩
              exact leafT hq (by walk_at "ex") (by simp only [Bool.true_and])
            · have c3 : ¬ (isWhole 0 9999 (atD ds 2)) = true := c3
              exact leafT hq (by walk_at "ex") (by rw [Bool.eq_false_iff.mpr c3]; simp only [Bool.true_and, Bool.and_false, Bool.false_and])
          · have c2 : ¬ decide (ds.length = 5) = true := fun z => c2 ((L 5).symm ▸ z)
            exact leafT hq (by walk_at "ex") (by rw [Bool.eq_false_iff.mpr c2]; simp only [Bool.true_and, Bool.and_false, Bool.false_and])
        · have c : ¬ (isWord "led" (atD ds 0)) = true := c
          exact leafT hq (by walk_at "ex") (by rw [Bool.eq_false_iff.mpr c]; simp only [Bool.false_and])
      intro H7 e7
      refine ite2 (fun c => ?_) (fun c => ?_)
      · rw [if_pos c] at q
        have hn : ds.length = 5 := by
          simp only [Bool.and_eq_true, decide_eq_true_eq] at c
          omega
        have ex0 : Ex H H7 := by walk_at "ex"
        obtain ⟨v1, a1, d1⟩ := dpAll_atD ha' 1 (by omega)
        obtain ⟨v3, a3, d3⟩ := dpAll_atD ha' 3 (by omega)
        walk_at "go"
        refine ⟨_, _, _, _, rfl, rfl, ex0.sqT hs, a1, ?_⟩
        walk_at "go"
        refine ⟨_, _, _, _, rfl, rfl, ex0.sqT hs, a3, ?_⟩
        walk_at "go"
        refine nL_intro fun p H3 np e3 hp => ?_
        exact q _ _ (ex0.trans e3) ⟨p, _, rfl, ex0.back np, hp, .cons d1 (.cons d3 (.nil))⟩
      rw [if_neg c] at q
      walk_at "go"
      exact q _ _ (by walk_at "ex") rfl
    | dict _ => cases hd
    | _ =>
      refine iteT ?_
      walk_at "go"
      exact q _ _ e1 rfl


def finB (d : PyData) : Bool := dGood d && decide (PyData.depth d ≤ 63)
mutual
def fine : PyData → Bool
  | .tuple ds => finB (.tuple ds) && fineAll ds
  | d => finB d
def fineAll : List PyData → Bool
  | [] => true
  | d :: ds => fine d && fineAll ds
end
theorem fine_fin {d : PyData} (h : fine d = true) : finB d = true := by
  cases d <;> simp only [fine, Bool.and_eq_true] at h <;> first | exact h.1 | exact h
theorem fineAll_mem : ∀ {ds : List PyData}, fineAll ds = true → ∀ d ∈ ds, fine d = true
  | [], _, _, hd => by cases hd
  | e :: r, h, d, hd => by
    rw [fineAll, Bool.and_eq_true] at h
    rcases List.mem_cons.mp hd with rfl | hd
    · exact h.1
    · exact fineAll_mem h.2 d hd
theorem fine_parts {ds : List PyData} (h : fine (.tuple ds) = true) : ∀ d ∈ ds, fine d = true := by
  rw [fine, Bool.and_eq_true] at h
  exact fineAll_mem h.2
theorem atD_mem {ds : List PyData} {i : Nat} (h : i < ds.length) : atD ds i ∈ ds := by
  unfold atD
  rw [List.getD_eq_getElem?_getD, List.getElem?_eq_getElem h]
  exact List.getElem_mem _
theorem fine_inner {d : PyData} {es : List PyData} (h : fine d = true) (e : innerOf d = some es) : ∀ x ∈ es, fine x = true := by
  cases d with
  | tuple ds =>
    have hm := fine_parts h
    have e : innerT ds = some es := e
    unfold innerT at e
    intro x hx
    repeat' split at e
    all_goals first | cases e | skip
    all_goals
      rename_i hc
      simp only [Bool.and_eq_true, decide_eq_true_eq] at hc
    · cases hx
    · rcases List.mem_singleton.mp hx with rfl; exact hm _ (atD_mem (by omega))
    · rcases List.mem_singleton.mp hx with rfl; exact hm _ (atD_mem (by omega))
    · rcases List.mem_singleton.mp hx with rfl; exact hm _ (atD_mem (by omega))
    · rcases List.mem_cons.mp hx with rfl | hx
      · exact hm _ (atD_mem (by omega))
      · rcases List.mem_singleton.mp hx with rfl; exact hm _ (atD_mem (by omega))
    · rcases List.mem_cons.mp hx with rfl | hx
      · exact hm _ (atD_mem (by omega))
      · rcases List.mem_singleton.mp hx with rfl; exact hm _ (atD_mem (by omega))
  | _ => cases e
theorem inner_len {d : PyData} {es : List PyData} (e : innerOf d = some es) : es.length ≤ 2 := by
  cases d with
  | tuple ds =>
    have e : innerT ds = some es := e
    unfold innerT at e
    repeat' split at e
    all_goals first | cases e | skip
    all_goals simp
  | _ => cases e
/-- what is still to be looked at, the next one first; k tuples more -/
def lookFrom : Nat → List PyData → Bool
  | _, [] => true
  | 0, _ :: _ => false
  | k + 1, d :: r => match innerOf d with
    | none => false
    | some ds => lookFrom k (ds.reverse ++ r)
def isBeatD (d : PyData) : Bool := lookFrom 30 [d]
theorem sc_is_beat : FnScope ["beat", "left", "many", "inner"] ["beat"] (defScope s_is_beat) := ⟨rfl, rfl, rfl, by decide +kernel, rfl, by decide +kernel, by decide +kernel⟩
def spIsBeat (K : PySem.W.Frag) : Sp := fun vs H Q _ => ∃ (v : V) (d : PyData), vs = [v] ∧ Dp K H v d ∧ fine d = true ∧ ∀ H', Ex H H' → Q (.bl (isBeatD d)) H'
theorem shaped_fine {ds : List PyData} (h : ∀ d ∈ ds, fine d = true) : SeqAt.shaped (.list ds) = true := by
  refine (shaped_of fun d hd => ?_).1
  have h := fine_fin (h d hd)
  unfold finB dGood at h
  simp only [Bool.and_eq_true, decide_eq_true_eq] at h
  exact ⟨(shaped_iff.mp h.1.1.1).1, h.2⟩
theorem ok_is_beat {f : Addr} {fd : FuncData} (F : Fun K "is_beat" "is_beat" s_is_beat f fd) (B : Blt mg) (g_MOST_TUPLES : ∃ u, mg "MOST_TUPLES" = some u ∧ RelV (.int 30) u)
    (c_inner_of : Dn P w K mg base 3 "inner_of" (spInner K)) : FnOk P w K mg base CX0 4 f fd ["beat"] (spIsBeat K) := by
  have nd := sc_is_beat.nd
  refine F.ok sc_is_beat (fun vs H Q E h => ?_) (fun cdv A outer s H vs Q E hr h => ?_)
  · obtain ⟨v, d, rfl, _⟩ := h
    rfl
  · obtain ⟨v, d, rfl, hd, hf, q⟩ := h
    refine ⟨_, 
    (pss_cons (ps_set (i := 1) nd rfl (Or.inl rfl) (pe_lstN (pa_cons (pv 0) pa_nil)))
    (pss_cons (ps_set (i := 2) nd rfl (Or.inl rfl) pe_int)
    (pss_cons (ps_while PassesOwn.never (pt_cmp (neNilD (K := K) rfl hr.units (pv 1))) (pss_cons (ps_set (i := 3) nd rfl (Or.inl rfl) (pe_d c_inner_of hr (by decide) passL (by rfl) (pa_cons (pe_bm0 PySem.F.plainAttrs_list PySem.F.slot_list_pop PySem.F.type_list_pop mt_pop (pv 1)) pa_nil)))
    (pss_cons (ps_set (i := 2) nd rfl (Or.inl rfl) (pe_op op_add (pv 2) pe_int))
    (pss_cons (ps_if (PW.pt (pw_or (pt_cmpR op_isN (pv 3) pe_non (nomark _)) (pw_or1 (pt_cmpR op_gt (pv 2) (pe_gl rfl g_MOST_TUPLES) (nomark _))))) (pss_one (ps_ret pe_bl)) pss_nil)
    (pss_one (ps_expr (pe_bm PySem.F.plainAttrs_list PySem.F.slot_list_extend PySem.F.type_list_extend mt_extend (pv 1) (pa_cons (pv 3) pa_nil))))))))
    (pss_one (ps_ret pe_bl))))), ?_⟩
    try dsimp only [cxOf, Cx.nox, Cx.wish]
    walk_at "go"
    refine nL_intro fun L H1 nL e1 hL => ?_
    walk_at "go"
    refine ⟨fun m σ H' => ∃ (stk : List PyData) (vs : List V) (k : Nat) (y : Option V), σ = [some v, some (.ref L), some (.int (k : Int)), y] ∧ Ex H H' ∧ H' L = some (.lst vs) ∧ DpAll K H vs stk.reverse ∧ (∀ x ∈ stk, fine x = true) ∧ k ≤ 30 ∧ stk.length ≤ 2 * k + 1 ∧
      isBeatD d = lookFrom (30 - k) stk ∧ m = 30 - k, ⟨_, [d], [v], 0, none, rfl, e1, hL, .cons hd .nil, fun x hx => by rw [List.mem_singleton.mp hx]; exact hf, by omega, by simp, rfl, rfl⟩, ?_⟩
    rintro m σ H2 ⟨stk, vs, k, y, rfl, e2, hL2, ha, hfi, hk, hsz, hb, rfl⟩
    walk_at "go"
    refine ⟨_, stk.reverse, rfl, .lst (.of hL2) (e2.dpAll ha), shaped_fine (fun x hx => hfi x (List.mem_reverse.mp hx)), ?_⟩
    walk_at "go"
    rename_i H3 e3
    cases stk with
    | nil =>
      walk_at "go"
      refine iteF ?_
      walk_at "go"
      rw [show lookFrom (30 - k) [] = true by cases 30 - k <;> rfl] at hb
      rw [hb] at q
      exact q _ (by walk_at "ex")
    | cons t r =>
      rw [List.reverse_cons] at ha
      obtain ⟨us, u, rfl, ga, gd⟩ := dpAll_snoc ha
      have hem : (!((t :: r).reverse).isEmpty) = true := by simp
      rw [hem]
      refine iteT ?_
      have hft : fine t = true := hfi t List.mem_cons_self
      refine ⟨fun σ2 H' => k < 30 ∧ ∃ (ds : List PyData) (vs' : List V) (y' : Option V), σ2 = [some v, some (.ref L), some (.int ((k + 1 : Nat) : Int)), y'] ∧ innerOf t = some ds ∧ Ex H H' ∧ H' L = some (.lst vs') ∧ DpAll K H vs' (ds.reverse ++ r).reverse, ?_, ?_⟩
      · rintro σ2 H' ⟨hk30, ds, vs', y', rfl, hi, e', hL', ha'⟩
        refine ⟨30 - (k + 1), by omega, ds.reverse ++ r, vs', k + 1, y', rfl, e', hL', ha', fun x hx => ?_, by omega, ?_, ?_, rfl⟩
        · rcases List.mem_append.mp hx with hx | hx
          · exact fine_inner hft hi x (List.mem_reverse.mp hx)
          · exact hfi x (List.mem_cons_of_mem _ hx)
        · have := inner_len hi
          rw [List.length_append, List.length_reverse]
          rw [List.length_cons] at hsz
          omega
        · rw [hb, show 30 - k = (30 - (k + 1)) + 1 by omega, lookFrom, hi]
      have hL3 := e3 _ _ hL2
      have nLH : H L = none := nL
      walk_at "go"
      refine ⟨.inl ⟨rfl, _, .of hL3⟩, L, _, u, rfl, rfl, hL3, by simp, ?_⟩
      rw [List.dropLast_concat]
      have e4 : Ex H (upd H3 L (.lst us)) := Ex.mut (e2.trans e3) nLH
      have hL4 : (upd H3 L (.lst us)) L = some (.lst us) := upd_same
      generalize upd H3 L (.lst us) = H4 at e4 hL4 ⊢
      refine ⟨u, t, H, rfl, e4, gd, ?_, fun z H5 e5 hz => ?_⟩
      · have := fine_fin hft
        unfold finB at this
        rw [Bool.and_eq_true] at this
        exact this.1
      walk_at "go"
      have hL5 := e5 _ _ hL4
      have e05 : Ex H H5 := e4.trans e5
      have hb2 : innerOf t = none ∨ k = 30 → isBeatD d = false := fun o => by
        rw [hb]
        by_cases hk3 : k = 30
        · rw [hk3]; rfl
        · rw [show 30 - k = (30 - (k + 1)) + 1 by omega, lookFrom]
          rcases o with o | o
          · rw [o]
          · exact absurd o hk3
      refine ite2 (fun c => ?_) (fun c => ?_)
      · have c : z = V.non := of_decide_eq_true c
        have hi : innerOf t = none := by
          cases hi : innerOf t with
          | none => rfl
          | some es =>
            rw [hi] at hz
            obtain ⟨p, vs, ez, _⟩ := hz
            rw [c] at ez
            cases ez
        rw [hb2 (.inl hi)] at q
        refine iteT ?_
        walk_at "go"
        exact q _ e05
      · have c : ¬ z = V.non := not_dec c
        obtain ⟨es, hi⟩ : ∃ es, innerOf t = some es := by
          cases hi : innerOf t with
          | none => rw [hi] at hz; exact absurd hz c
          | some es => exact ⟨es, rfl⟩
        rw [hi] at hz
        obtain ⟨p, ws, rfl, np, hp, hw⟩ := hz
        walk_at "go"
        refine ite2 (fun c2 => ?_) (fun c2 => ?_)
        · have c2 : (30 : Int) < (k : Int) + 1 := of_decide_eq_true c2
          rw [hb2 (.inr (by omega))] at q
          walk_at "go"
          exact q _ e05
        · have c2 : ¬ (30 : Int) < (k : Int) + 1 := not_dec c2
          walk_at "go"
          refine ⟨.inl ⟨rfl, _, .of hL5⟩, ?_⟩
          walk_at "go"
          refine ⟨L, p, _, _, rfl, rfl, hL5, hp, ?_, ?_⟩
          · have h1 := dpAll_len ga
            have h2 := dpAll_len hw
            have h3 := inner_len hi
            rw [h1, h2, List.length_reverse]
            rw [List.length_cons] at hsz
            exact Nat.le_trans (show r.length + es.length ≤ 100 by omega) (by decide)
          refine ⟨by omega, es, us ++ ws, some (.ref p), ?_, hi, Ex.mut e05 nLH, upd_same, ?_⟩
          · simp
          · rw [List.reverse_append, List.reverse_reverse]
            exact dpAll_app ga hw
/-- refused if it is no beat -/
def spNeed (K : PySem.W.Frag) (C : Addr) : Sp := fun vs H Q E => ∃ (v : V) (d : PyData), vs = [v] ∧ Dp K H v d ∧ fine d = true ∧ (isBeatD d = true → ∀ H', Ex H H' → Q .non H') ∧ (isBeatD d = false → ∀ H', Ex H H' → E (.ref C) none H')

/-! ### what a law compares with -/
def spNever : Sp := fun _ _ _ _ => False
theorem never_ok {X : CXT} {k : Nat} {f : Addr} {fd : FuncData} {ps : List Str} : FnOk P w K mg base X k f fd ps spNever := ⟨fun _ _ _ _ h => h.elim, fun _ _ _ _ _ _ _ _ _ _ _ _ _ h => h.elim⟩
mutual
/-- no list or tuple has too many items -/
def narrow : PyData → Bool
  | .list ds | .tuple ds => decide (ds.length ≤ 100000) && narrowAll ds
  | _ => true
def narrowAll : List PyData → Bool
  | [] => true
  | d :: ds => narrow d && narrowAll ds
end
theorem narrowAll_mem : ∀ {ds : List PyData}, narrowAll ds = true → ∀ d ∈ ds, narrow d = true
  | [], _, _, hd => by cases hd
  | e :: r, h, d, hd => by
    rw [narrowAll, Bool.and_eq_true] at h
    rcases List.mem_cons.mp hd with rfl | hd
    · exact h.1
    · exact narrowAll_mem h.2 d hd
theorem narrowAll_of : ∀ {ds : List PyData}, (∀ d ∈ ds, narrow d = true) → narrowAll ds = true
  | [], _ => by simp [narrowAll]
  | e :: r, h => by
    rw [narrowAll, h e List.mem_cons_self, narrowAll_of fun d hd => h d (List.mem_cons_of_mem _ hd)]
    rfl
theorem sc__law_alike : FnScope ["_law_found", "_law_due_here", "_law_k"] ["_law_found", "_law_due_here"] (defScope s__law_alike) := ⟨rfl, rfl, rfl, by decide +kernel, rfl, by decide +kernel, by decide +kernel⟩
/-- the same data twice, of less than n around one another -/
def spAlike (K : PySem.W.Frag) (n : Nat) : Sp := fun vs H Q _ => ∃ (v u : V) (d : PyData), vs = [v, u] ∧ Dp K H v d ∧ Dp K H u d ∧ SeqAt.shaped d = true ∧ narrow d = true ∧ PyData.depth d < n ∧ ∀ H', Ex H H' → Q (.bl true) H'
theorem eqv_refl_str (x : Str) : PyData.eqv (.str x) (.str x) = true := by simp [PyData.eqv]
theorem eqv_refl_int (x : Int) : PyData.eqv (.int x) (.int x) = true := by simp [PyData.eqv]
theorem eqv_refl_bool (x : Bool) : PyData.eqv (.bool x) (.bool x) = true := by simp [PyData.eqv]
def partsOf : PyData → List PyData
  | .list ds | .tuple ds => ds
  | _ => []
theorem narrow_parts {d : PyData} (h : narrow d = true) : (partsOf d).length ≤ 100000 ∧ ∀ x ∈ partsOf d, narrow x = true := by
  cases d <;> simp only [partsOf]
  case list ds =>
    rw [narrow, Bool.and_eq_true] at h
    exact ⟨of_decide_eq_true h.1, narrowAll_mem h.2⟩
  case tuple ds =>
    rw [narrow, Bool.and_eq_true] at h
    exact ⟨of_decide_eq_true h.1, narrowAll_mem h.2⟩
  all_goals exact ⟨Nat.zero_le _, fun x hx => by cases hx⟩
theorem dp_seq {H : Hp} {v : V} {d : PyData} (hk : (isA "tuple" d || isA "list" d) = true) (h : Dp K H v d) : ∃ a xs, v = .ref a ∧ (SqL K H a xs ∨ SqT K H a xs) ∧ DpAll K H xs (partsOf d) := by
  cases h with
  | lst h a => exact ⟨_, _, rfl, .inl h, a⟩
  | tup h a => exact ⟨_, _, rfl, .inr h, a⟩
  | _ => simp [isA_tab] at hk
theorem Ex.sq2 {H H' : Hp} {a : Addr} {xs : List V} (e : Ex H H') (h : SqL K H a xs ∨ SqT K H a xs) : SqL K H' a xs ∨ SqT K H' a xs := h.imp e.sqL e.sqT
theorem parts_shaped {d : PyData} (h : SeqAt.shaped d = true) : ∀ x ∈ partsOf d, SeqAt.shaped x = true := by
  cases d with
  | list ds =>
    refine shaped_of_mem (ds := ds) ?_
    rw [shaped_iff] at h ⊢
    simp only [PyData.canLay0, PyData.depth] at h ⊢
    exact h
  | tuple ds => exact shaped_of_mem h
  | _ => intro x hx; cases hx
theorem depth_parts {d : PyData} : ∀ x ∈ partsOf d, PyData.depth x < PyData.depth d := by
  have key : ∀ ds : List PyData, ∀ x ∈ ds, PyData.depth x ≤ PyData.depthAll ds := by
    intro ds
    induction ds with
    | nil => intro x hx; cases hx
    | cons e r ih =>
      intro x hx
      rw [PyData.depthAll]
      rcases List.mem_cons.mp hx with rfl | hx
      · omega
      · have := ih x hx
        omega
  cases d with
  | list ds =>
    intro x hx
    rw [PyData.depth]
    have := key ds x hx
    omega
  | tuple ds =>
    intro x hx
    rw [PyData.depth]
    have := key ds x hx
    omega
  | _ => intro x hx; cases hx
theorem iteND {c A B : Prop} [Decidable c] (hc : c) (h : B) : if (!decide c) = true then A else B := by
  rw [decide_eq_true hc]
  exact h
theorem step_alike {f : Addr} {fd : FuncData} (F : Fun K "_law_alike" "_law_alike" s__law_alike f fd) (B : Blt mg) {n : Nat} (c__law_alike : Dn P w K mg base (n + 1) "_law_alike" (spAlike K n)) : FnOk P w K mg base CX0 (n + 2) f fd ["_law_found", "_law_due_here"] (spAlike K (n + 1)) := by
  have nd := sc__law_alike.nd
  refine F.ok sc__law_alike (fun vs H Q E h => ?_) (fun cdv A outer s H vs Q E hr h => ?_)
  · obtain ⟨v, u, d, rfl, _⟩ := h
    rfl
  · obtain ⟨v, u, d, rfl, hv, hu, hsh, hnw, hdp, q⟩ := h
    refine ⟨_, 
    (pss_cons (ps_if (pt_val (pe_callB (isiD2 (K := K) rfl) (by rfl) B.isinstance bt_isinstance (pa_cons (pv 1) (pa_cons (pe_tupN (pa_cons (pe_bltn (v := .ty "tuple") (u := Value.type "tuple") (by rfl) B.tuple bt_tuple rfl) (pa_cons (pe_bltn (v := .ty "list") (u := Value.type "list") (by rfl) B.list bt_list rfl) pa_nil))) pa_nil)))) (pss_cons (ps_if (PW.pt (pw_or (pt_not (pt_val (pe_callB (isiD2 (K := K) rfl) (by rfl) B.isinstance bt_isinstance (pa_cons (pv 0) (pa_cons (pe_tupN (pa_cons (pe_bltn (v := .ty "tuple") (u := Value.type "tuple") (by rfl) B.tuple bt_tuple rfl) (pa_cons (pe_bltn (v := .ty "list") (u := Value.type "list") (by rfl) B.list bt_list rfl) pa_nil))) pa_nil))))) (pw_or1 (pt_cmpR op_ne (pe_callB (isiD (K := K) rfl) (by rfl) B.isinstance bt_isinstance (pa_cons (pv 0) (pa_cons (pe_bltn (v := .ty "list") (u := Value.type "list") (by rfl) B.list bt_list rfl) pa_nil))) (pe_callB (isiD (K := K) rfl) (by rfl) B.isinstance bt_isinstance (pa_cons (pv 1) (pa_cons (pe_bltn (v := .ty "list") (u := Value.type "list") (by rfl) B.list bt_list rfl) pa_nil))) (nomark _))))) (pss_one (ps_ret pe_bl)) pss_nil)
    (pss_cons (ps_if (pt_cmpR op_ne (pe_callB (lenK (K := K) rfl) (by rfl) B.len PySem.boot_len (pa_cons (pv 0) pa_nil)) (pe_callB (lenK (K := K) rfl) (by rfl) B.len PySem.boot_len (pa_cons (pv 1) pa_nil)) (nomark _)) (pss_one (ps_ret pe_bl)) pss_nil)
    (pss_one (ps_ret (pe_cmp (eqNil (K := K) rfl hr.units (pe_lc (own := [("_law_k", 2)]) (g := gName 2) rfl nd (pi_range1 (by rfl) B.range (pa_cons (pe_callB (lenK (K := K) rfl) (by rfl) B.len PySem.boot_len (pa_cons (pv 1) pa_nil)) pa_nil)) (blkOk_by (N := ["_law_found", "_law_due_here", "_law_k"]) (sc := defScope s__law_alike) (by decide +kernel)) (fun _ _ _ _ _ => pg_name (i := 2) nd rfl (Or.inl rfl)) (fun _ _ _ _ _ => (pts_one (pt_not (pt_val (pe_d c__law_alike hr (by omega) passL (by rfl) (pa_cons (pe_ix (ixlt (K := K) rfl) (pv 0) (pv 2) (fun _ _ => rfl)) (pa_cons (pe_ix (ixlt (K := K) rfl) (pv 1) (pv 2) (fun _ _ => rfl)) pa_nil))))))) (fun _ _ _ _ _ => (pv 2))))))))) pss_nil)
    (pss_cons (ps_if (pt_cmpR op_isN (pv 1) pe_non (nomark _)) (pss_one (ps_ret (pe_cmpR op_isN (pv 0) pe_non (nomark _)))) pss_nil)
    (pss_cons (ps_if (pt_val (pe_callB (isiD (K := K) rfl) (by rfl) B.isinstance bt_isinstance (pa_cons (pv 1) (pa_cons (pe_bltn (v := .ty "str") (u := Value.type "str") (by rfl) B.str bt_str rfl) pa_nil)))) (pss_one (ps_ret (pe_and (pe_callB (isiD (K := K) rfl) (by rfl) B.isinstance bt_isinstance (pa_cons (pv 0) (pa_cons (pe_bltn (v := .ty "str") (u := Value.type "str") (by rfl) B.str bt_str rfl) pa_nil))) (pe_one (pe_cmpR (eqD (K := K) rfl hr.units) (pv 0) (pv 1) (nomark _)))))) pss_nil)
    (pss_cons (ps_if (PW.pt (pw_or (pt_val (pe_callB (isiD (K := K) rfl) (by rfl) B.isinstance bt_isinstance (pa_cons (pv 1) (pa_cons (pe_bltn (v := .ty "bool") (u := Value.type "bool") (by rfl) B.bool bt_bool rfl) pa_nil)))) (pw_or1 (pt_val (pe_callB (isiD (K := K) rfl) (by rfl) B.isinstance bt_isinstance (pa_cons (pv 0) (pa_cons (pe_bltn (v := .ty "bool") (u := Value.type "bool") (by rfl) B.bool bt_bool rfl) pa_nil))))))) (pss_one (ps_ret (pe_and (pe_callB (isiD (K := K) rfl) (by rfl) B.isinstance bt_isinstance (pa_cons (pv 1) (pa_cons (pe_bltn (v := .ty "bool") (u := Value.type "bool") (by rfl) B.bool bt_bool rfl) pa_nil))) (pe_and (pe_callB (isiD (K := K) rfl) (by rfl) B.isinstance bt_isinstance (pa_cons (pv 0) (pa_cons (pe_bltn (v := .ty "bool") (u := Value.type "bool") (by rfl) B.bool bt_bool rfl) pa_nil))) (pe_one (pe_cmpR (eqD (K := K) rfl hr.units) (pv 0) (pv 1) (nomark _))))))) pss_nil)
    (pss_one (ps_ret (pe_and (pe_callB (isiD (K := K) rfl) (by rfl) B.isinstance bt_isinstance (pa_cons (pv 0) (pa_cons (pe_bltn (v := .ty "int") (u := Value.type "int") (by rfl) B.int bt_int rfl) pa_nil))) (pe_one (pe_cmpR (eqD (K := K) rfl hr.units) (pv 0) (pv 1) (nomark _)))))))))), ?_⟩
    try dsimp only [cxOf, Cx.nox, Cx.wish]
    walk_at "go"
    refine nT_intro fun tp H1 np e1 hp => ?_
    walk_at "go"
    refine ⟨u, tp, "tuple", "list", d, rfl, hp, e1.dp hu, rfl, rfl, ?_⟩
    have hsc : ∀ {H'}, Ex H H' → Q (.bl true) H' := fun e => q _ e
    have hd0 : ∀ ds : List PyData, (d = .list ds ∨ d = .tuple ds) → True := fun _ _ => trivial
    cases hk : (isA "tuple" d || isA "list" d) with
    | false =>
      refine ⟨_, rfl, ?_⟩
      refine iteF ?_
      cases d with
      | none =>
        cases hv
        cases hu
        walk_at "go"
        rw [show decide (V.non = V.non) = true from decide_eq_true rfl]
        exact q _ (by walk_at "ex")
      | bool b =>
        cases hv
        cases hu
        walk_at "go"
        simp only [isA_tab]
        walk_at "go"
        refine ⟨_, _, .bl b, .bl b, hsh, hsh, ?_⟩
        rw [eqv_refl_bool]
        exact q _ (by walk_at "ex")
      | int i =>
        cases hv
        cases hu
        walk_at "go"
        simp only [isA_tab]
        walk_at "go"
        refine ⟨_, _, .int i, .int i, hsh, hsh, ?_⟩
        rw [eqv_refl_int]
        exact q _ (by walk_at "ex")
      | str x =>
        cases hv
        cases hu
        walk_at "go"
        simp only [isA_tab]
        walk_at "go"
        refine ⟨_, _, .str x, .str x, hsh, hsh, ?_⟩
        rw [eqv_refl_str]
        exact q _ (by walk_at "ex")
      | list ds => simp [isA_tab] at hk
      | tuple ds => simp [isA_tab] at hk
      | dict _ => cases hu
    | true =>
      obtain ⟨a, xs, rfl, sv, av⟩ := dp_seq hk hv
      obtain ⟨b, ys, rfl, su, au⟩ := dp_seq hk hu
      have lv := dpAll_len av
      have lu := dpAll_len au
      refine ⟨_, rfl, ?_⟩
      refine iteT ?_
      walk_at "go"
      refine nT_intro fun tp2 H2 np2 e2 hp2 => ?_
      walk_at "go"
      refine ⟨_, tp2, "tuple", "list", d, rfl, hp2, by walk_at "dp", rfl, rfl, ?_⟩
      rw [hk]
      walk_at "go"
      refine iteND rfl ?_
      have e02 : Ex H H2 := e1.trans e2
      refine ⟨_, rfl, _, xs, rfl, e02.sq2 sv, _, rfl, _, ys, rfl, e02.sq2 su, ?_⟩
      walk_at "go"
      refine iteND (congrArg V.int (by rw [lv, lu])) ?_
      refine ⟨_, rfl, _, ys, rfl, e02.sq2 su, ?_⟩
      obtain ⟨hn1, hn2⟩ := narrow_parts hnw
      have hn3 : ys.length ≤ 100000 := by omega
      refine ⟨_, rfl, by omega, by omega, ?_⟩
      rw [show ((ys.length : Int)).toNat = ys.length by omega]
      refine lc_out (fun _ => none) Goes.range (by omega) ?_ ?_
      · rintro i x H' hi e rfl R hR
        obtain ⟨va, da, h1, h2, h3⟩ := dpAll_at av i (by omega)
        obtain ⟨vb, db, g1, g2, g3⟩ := dpAll_at au i (by omega)
        rw [h2] at g2
        cases g2
        have hmem : da ∈ partsOf d := List.mem_of_getElem? h2
        refine ⟨rfl, ?_⟩
        have e' : Ex H H' := e02.trans e
        have pick : ∀ {c : Addr} {zs : List V} {z : V} {Q' : VK}, (SqL K H' c zs ∨ SqT K H' c zs) → zs[i]? = some z → Q' z H' → (fun x y H Q => rIxL K x y H Q ∨ rIxT K x y H Q) (V.ref c) (V.int (0 + (i : Int))) H' Q' := fun {c zs z Q'} hs hz hq => by
          have hz' : atI zs (0 + (i : Int)) = some z := by rw [Int.zero_add]; exact atI_nat hz
          rcases hs with hs | hs
          · exact .inl ⟨c, zs, _, z, rfl, rfl, hs, hz', hq⟩
          · exact .inr ⟨c, zs, _, z, rfl, rfl, hs, hz', hq⟩
        walk_at "go"
        refine pick (e'.sq2 sv) h1 ?_
        walk_at "go"
        refine pick (e'.sq2 su) g1 ?_
        walk_at "go"
        refine ⟨va, vb, da, rfl, e'.dp h3, e'.dp g3, parts_shaped hsh _ hmem, hn2 _ hmem, by have := depth_parts _ hmem; omega, fun H5 e5 => ?_⟩
        walk_at "go"
        exact hR _ _ rfl (by walk_at "ex")
      intro p3 H3 np3 e3 hp3
      have : outs (fun _ => none) ys.length = ([] : List V) := by
        unfold outs
        simp
      rw [this] at hp3
      refine ⟨p3, [], rfl, .of hp3, ?_⟩
      walk_at "go"
      exact q _ (by walk_at "ex")
theorem ok_alike {f : Addr} {fd : FuncData} (F : Fun K "_law_alike" "_law_alike" s__law_alike f fd) (B : Blt mg) (hm : mg "_law_alike" = some (.ref f)) (hk : PySem.W.keepIn K (.ref f) = true) (hb : Binds K fd ["_law_found", "_law_due_here"] []) :
    ∀ n, FnOk P w K mg base CX0 (n + 1) f fd ["_law_found", "_law_due_here"] (spAlike K n)
  | 0 => never_ok.imp fun _ _ _ _ ⟨_, _, _, _, _, _, _, _, h, _⟩ => absurd h (Nat.not_lt_zero _)
  | n + 1 => step_alike F B (.of0 (ok_alike F B hm hk hb n) hm hk hb)
/-- a fraction, reduced; its greatest common divisor is not too great -/
def spReduced : Sp := fun vs H Q _ => ∃ x y : Int, vs = [.int x, .int y] ∧ 0 ≤ x ∧ 0 ≤ y ∧ 0 < gcdZ x y ∧ gcdZ x y < 1073741824 ∧ nT H [.int (x / gcdZ x y), .int (y / gcdZ x y)] Q

/-! ### stocks, signs -/
def RatioOk (r : Int × Int) : Prop := 1 ≤ r.1 ∧ 2 * r.1 ≤ r.2 ∧ r.2 ≤ 12
structure StockOk (st : List (Int × Int)) : Prop where
  lo : 1 ≤ st.length
  hi : st.length ≤ 5
  all : ∀ r ∈ st, RatioOk r
theorem at_two {a b r : Int} (h0 : 0 ≤ r) (h1 : r < 2) : atI [V.int a, V.int b] r = some (.int (if r = 0 then a else b)) := by
  have : r = 0 ∨ r = 1 := by omega
  rcases this with rfl | rfl
  · exact atI_nat (j := 0) rfl
  · exact atI_nat (j := 1) rfl
def spStock (K : PySem.W.Frag) : Sp := fun vs H Q _ => ∃ (h : Addr), vs = [.ref h] ∧ Rng H h ∧ ∀ v H' st, Ex H H' → StkAt K H' v st → StockOk st → Q v H'
def evenTo (p q i : Nat) : List Bool := (List.range q).map fun place => (List.range i).any fun k => k * q / p == place
def sB (b : Bool) : V := .str ⟨#[bitC b]⟩
theorem sB_one : V.str (Str.ofString "1") = sB true := by decide +kernel
theorem sB_nought : V.str (Str.ofString "0") = sB false := by decide +kernel
theorem evenTo_zero (p q : Nat) : evenTo p q 0 = List.replicate q false := by
  unfold evenTo
  simp [List.map_const']
theorem evenTo_succ (p q i : Nat) (h : i * q / p < q) : (evenTo p q i).set (i * q / p) true = evenTo p q (i + 1) := by
  unfold evenTo
  refine List.ext_getElem (by simp) fun j h1 h2 => ?_
  simp only [List.length_set, List.length_map, List.length_range] at h1
  rw [List.getElem_set]
  simp only [List.getElem_map, List.getElem_range, List.range_succ, List.any_append, List.any_cons, List.any_nil, Bool.or_false]
  by_cases e : i * q / p = j
  · simp [e]
  · simp [e]
theorem bits_map (bits : List Bool) : bits.map sB = (bits.map fun b => (⟨#[bitC b]⟩ : Str)).map V.str := by
  rw [List.map_map]
  rfl
def spEven : Sp := fun vs H Q _ => ∃ (p q : Nat), vs = [.int (p : Int), .int (q : Int)] ∧ p ≤ q ∧ q ≤ 12 ∧ ∀ H', Ex H H' → Q (.str (bitsStr (evenBits p q))) H'
def spRatio (K : PySem.W.Frag) : Sp := fun vs H Q _ => ∃ (a : Addr) (x y : Int), vs = [.ref a] ∧ SqT K H a [.int x, .int y] ∧ Q (.bl (decide (1 ≤ x) && decide (x ≤ 12) && (decide (2 * x ≤ y) && decide (y ≤ 12)))) H

def ratioB (r : Int × Int) : Bool := decide (1 ≤ r.1) && decide (r.1 ≤ 12) && (decide (2 * r.1 ≤ r.2) && decide (r.2 ≤ 12))
def stockB (st : List (Int × Int)) : Bool := decide (1 ≤ st.length) && decide (st.length ≤ 5) && st.all ratioB
theorem ratioB_ok {r : Int × Int} : ratioB r = true ↔ RatioOk r := by
  unfold ratioB
  simp only [Bool.and_eq_true, decide_eq_true_eq]
  constructor
  · rintro ⟨⟨h1, h2⟩, h3, h4⟩
    exact ⟨h1, h3, h4⟩
  · rintro ⟨h1, h3, h4⟩
    exact ⟨⟨h1, by omega⟩, h3, h4⟩
theorem stockB_ok {st : List (Int × Int)} (h : StockOk st) : stockB st = true := by
  unfold stockB
  rw [decide_eq_true h.lo, decide_eq_true h.hi]
  exact List.all_eq_true.mpr fun r hr => ratioB_ok.mpr (h.all r hr)
def pairD (r : Int × Int) : PyData := .tuple [.int r.1, .int r.2]
theorem pair_dp {H : Hp} {p : Addr} {r : Int × Int} (h : SqT K H p [.int r.1, .int r.2]) : Dp K H (.ref p) (pairD r) := .tup h (.cons (.int _) (.cons (.int _) .nil))
theorem pairs_shaped (l : List (Int × Int)) : SeqAt.shaped (.list (l.map pairD)) = true := by
  refine (shaped_of fun d hd => ?_).1
  obtain ⟨r, _, rfl⟩ := List.mem_map.mp hd
  refine ⟨?_, ?_⟩
  · simp [pairD, PyData.canLay0, PyData.canLayAll0]
  · simp [pairD, PyData.depth, PyData.depthAll]
theorem outs_pairs {H : Hp} {ps : List Addr} {st : List (Int × Int)} (hl : ps.length = st.length) (hr : ∀ (i : Nat) (p : Addr) (r : Int × Int), ps[i]? = some p → st[i]? = some r → SqT K H p [.int r.1, .int r.2]) :
    ∀ n, n ≤ st.length → DpAll K H (outs (fun i => (ps[i]?).bind fun p => (st[i]?).bind fun r => if (!ratioB r) = true then some (V.ref p) else none) n) (((st.take n).filter fun r => !ratioB r).map pairD) := by
  intro n
  induction n with
  | zero => intro _; exact .nil
  | succ n ih =>
    intro hn
    have hp : ps[n]? = some (ps[n]'(by omega)) := List.getElem?_eq_getElem (by omega)
    have hs : st[n]? = some (st[n]'(by omega)) := List.getElem?_eq_getElem (by omega)
    rw [outs_succ, List.take_add_one, List.filter_append, List.map_append, hs]
    refine dpAll_app (ih (by omega)) ?_
    rw [hp]
    show DpAll K H (Option.toList (if (!ratioB (st[n]'(by omega))) = true then some (V.ref (ps[n]'(by omega))) else none)) _
    cases hb : ratioB (st[n]'(by omega)) with
    | true => simp [hb]; exact .nil
    | false => simp [hb]; exact .cons (pair_dp (hr n _ _ hp hs)) .nil
theorem none_left : ∀ st : List (Int × Int), (List.map pairD (List.filter (fun r => !ratioB r) st)).isEmpty = st.all ratioB
  | [] => rfl
  | r :: t => by
    have ih := none_left t
    cases h : ratioB r
    · simp [h]
    · simp only [List.filter_cons, h, List.all_cons, Bool.not_true, Bool.true_and]
      exact ih
def spNeedStock (K : PySem.W.Frag) (C : Addr) : Sp := fun vs H Q E => ∃ (v : V) (st : List (Int × Int)), vs = [v] ∧ StkAt K H v st ∧ st.length ≤ 1000 ∧ (stockB st = true → ∀ H', Ex H H' → Q .non H') ∧ (stockB st = false → ∀ H', Ex H H' → E (.ref C) none H')
def spMade (K : PySem.W.Frag) : Sp := fun vs H Q _ => ∃ (v : V) (st : List (Int × Int)) (b : Addr) (ns : List Int), vs = [v, .ref b] ∧ StkAt K H v st ∧ StockOk st ∧ SqL K H b (ns.map V.int) ∧ (∀ n ∈ ns, 0 ≤ n ∧ n < (st.length : Int)) ∧
  ∀ v' H', Ex H H' → Dp K H' v' (gates st ns).data → Q v' H'

/-! ### beats as the program looks at them -/
def Beat.kids : Beat → List Beat
  | .source => []
  | .every _ _ b | .gate _ b | .later _ b => [b]
  | .two _ a b => [a, b]
  | .led a _ b _ => [a, b]
theorem words_ne : (Str.ofString "every" == Str.ofString "source") = false ∧ (Str.ofString "gate" == Str.ofString "source") = false ∧ (Str.ofString "later" == Str.ofString "source") = false ∧ (Str.ofString "either" == Str.ofString "source") = false ∧ (Str.ofString "both" == Str.ofString "source") = false ∧ (Str.ofString "but" == Str.ofString "source") = false ∧ (Str.ofString "led" == Str.ofString "source") = false ∧
    (Str.ofString "gate" == Str.ofString "every") = false ∧ (Str.ofString "later" == Str.ofString "every") = false ∧ (Str.ofString "either" == Str.ofString "every") = false ∧ (Str.ofString "both" == Str.ofString "every") = false ∧ (Str.ofString "but" == Str.ofString "every") = false ∧ (Str.ofString "led" == Str.ofString "every") = false ∧
    (Str.ofString "later" == Str.ofString "gate") = false ∧ (Str.ofString "either" == Str.ofString "gate") = false ∧ (Str.ofString "both" == Str.ofString "gate") = false ∧ (Str.ofString "but" == Str.ofString "gate") = false ∧ (Str.ofString "led" == Str.ofString "gate") = false ∧
    (Str.ofString "either" == Str.ofString "later") = false ∧ (Str.ofString "both" == Str.ofString "later") = false ∧ (Str.ofString "but" == Str.ofString "later") = false ∧ (Str.ofString "led" == Str.ofString "later") = false ∧
    (Str.ofString "led" == Str.ofString "either") = false ∧ (Str.ofString "led" == Str.ofString "both") = false ∧ (Str.ofString "led" == Str.ofString "but") = false := by decide +kernel
theorem word_is (a b : Str) : isWord a (.str b) = (b == a) := by
  unfold isWord
  rw [PyData.eqv]
theorem signs_ok (bits : List Bool) (h1 : 1 ≤ bits.length) (h2 : bits.length ≤ 12) : areSigns (.str (bitsStr bits)) = true := by
  show (decide (1 ≤ (bitsStr bits).length) && decide ((bitsStr bits).length ≤ 12) && (bitsStr bits).cps.toList.all signOk) = true
  rw [bitsStr_len, decide_eq_true h1, decide_eq_true h2]
  simp only [Bool.true_and]
  show ((bits.map bitC).toArray.toList).all signOk = true
  simp only [List.toList_toArray, List.all_map]
  exact List.all_eq_true.mpr fun b _ => by cases b <;> rfl
theorem inner_data {b : Beat} (h : b.ok) : innerOf b.data = some (b.kids.map Beat.data) := by
  show innerOf b.data = _
  cases b with
  | source =>
    show innerT [.str "source"] = some []
    simp [innerT, atD, word_is]
  | every n k b =>
    obtain ⟨h1, h2, h3, h4⟩ := h
    show innerT [.str "every", .int n, .int k, b.data] = some [b.data]
    have e : isEvery [.str "every", .int n, .int k, b.data] = true := by
      simp [isEvery, isWhole, atD, intD]
      omega
    simp [innerT, atD, word_is, words_ne, e]
  | gate bits b =>
    obtain ⟨h1, h2, h4⟩ := h
    show innerT [.str "gate", .str (bitsStr bits), b.data] = some [b.data]
    simp [innerT, atD, word_is, words_ne, signs_ok bits h1 h2]
  | later m b =>
    obtain ⟨h1, h4⟩ := h
    show innerT [.str "later", .int m, b.data] = some [b.data]
    have e : isWhole 0 99 (.int m) = true := by
      simp [isWhole]
      omega
    simp [innerT, atD, word_is, words_ne, e]
  | two w a b =>
    show innerT [.str w.word, a.data, b.data] = some [a.data, b.data]
    cases w <;> simp [innerT, atD, word_is, words_ne, Two.word]
  | led a many b first =>
    obtain ⟨h1, h2, h4⟩ := h
    show innerT [.str "led", a.data, .int many, b.data, .int first] = some [a.data, b.data]
    have e : isWhole 0 9999 (.int many) = true := by
      simp [isWhole]
      omega
    have e2 : isWhole 0 9999 (.int first) = true := by
      simp [isWhole]
      omega
    simp [innerT, atD, word_is, words_ne, e, e2]
theorem kids_size (b : Beat) : b.size = (b.kids.map Beat.size).sum + 1 := by
  cases b <;> simp [Beat.kids, Beat.size]
theorem kids_ok {b : Beat} (h : b.ok) : ∀ x ∈ b.kids, x.ok := by
  cases b <;> simp [Beat.kids, Beat.ok] at h ⊢ <;> (try exact h.2.2.2) <;> (try exact h.2.2) <;> (try exact h.2) <;> (try exact h)
theorem look_data : ∀ (k : Nat) (l : List Beat), (∀ b ∈ l, b.ok) → (l.map Beat.size).sum ≤ k → lookFrom k (l.map Beat.data) = true
  | k, [], _, _ => by cases k <;> rfl
  | 0, b :: r, _, h => by
    have := kids_size b
    simp at h
    omega
  | k + 1, b :: r, ho, h => by
    show lookFrom (k + 1) (b.data :: r.map Beat.data) = true
    rw [lookFrom, inner_data (ho b List.mem_cons_self)]
    show lookFrom k ((b.kids.map Beat.data).reverse ++ r.map Beat.data) = true
    rw [← List.map_reverse, ← List.map_append]
    refine look_data k _ (fun x hx => ?_) ?_
    · rcases List.mem_append.mp hx with hx | hx
      · exact kids_ok (ho b List.mem_cons_self) x (List.mem_reverse.mp hx)
      · exact ho x (List.mem_cons_of_mem _ hx)
    · have := kids_size b
      simp only [List.map_cons, List.sum_cons] at h
      simp only [List.map_append, List.sum_append, List.map_reverse, List.sum_reverse]
      omega
theorem beat_is {b : Beat} (h : b.ok) (hs : b.size ≤ 30) : isBeatD b.data = true := by
  have := look_data 30 [b] (fun x hx => by rw [List.mem_singleton.mp hx]; exact h) (by simp; exact hs)
  exact this
theorem bits_strOk (bits : List Bool) : PyData.strOk (bitsStr bits) = true := by
  unfold PyData.strOk bitsStr
  simp only [List.all_toArray, List.all_map]
  exact List.all_eq_true.mpr fun b _ => by cases b <;> rfl
theorem data_depth : ∀ b : Beat, PyData.depth b.data ≤ b.size
  | .source => by simp [Beat.data, PyData.depth, PyData.depthAll, Beat.size]
  | .every n k b => by
    have := data_depth b
    simp [Beat.data, PyData.depth, PyData.depthAll, Beat.size]
    omega
  | .gate bits b => by
    have := data_depth b
    simp [Beat.data, PyData.depth, PyData.depthAll, Beat.size]
    omega
  | .later m b => by
    have := data_depth b
    simp [Beat.data, PyData.depth, PyData.depthAll, Beat.size]
    omega
  | .two w a b => by
    have := data_depth a
    have := data_depth b
    simp [Beat.data, PyData.depth, PyData.depthAll, Beat.size]
    omega
  | .led a many b first => by
    have := data_depth a
    have := data_depth b
    simp [Beat.data, PyData.depth, PyData.depthAll, Beat.size]
    omega
theorem words_str : PyData.strOk (Str.ofString "source") = true ∧ PyData.strOk (Str.ofString "every") = true ∧ PyData.strOk (Str.ofString "gate") = true ∧ PyData.strOk (Str.ofString "later") = true ∧ PyData.strOk (Str.ofString "either") = true ∧ PyData.strOk (Str.ofString "both") = true ∧ PyData.strOk (Str.ofString "but") = true ∧ PyData.strOk (Str.ofString "led") = true := by decide +kernel
theorem word_str (w : Two) : PyData.strOk w.word = true := by
  cases w <;> simp [Two.word, words_str]
theorem data_lay : ∀ b : Beat, PyData.canLay0 b.data = true
  | .source => by simp [Beat.data, PyData.canLay0, PyData.canLayAll0, words_str]
  | .every n k b => by simp [Beat.data, PyData.canLay0, PyData.canLayAll0, words_str, data_lay b]
  | .gate bits b => by simp [Beat.data, PyData.canLay0, PyData.canLayAll0, words_str, bits_strOk, data_lay b]
  | .later m b => by simp [Beat.data, PyData.canLay0, PyData.canLayAll0, words_str, data_lay b]
  | .two w a b => by simp [Beat.data, PyData.canLay0, PyData.canLayAll0, word_str, data_lay a, data_lay b]
  | .led a many b first => by simp [Beat.data, PyData.canLay0, PyData.canLayAll0, words_str, data_lay a, data_lay b]
theorem data_shaped {b : Beat} (h : b.size ≤ 63) : SeqAt.shaped b.data = true := shaped_iff.mpr ⟨data_lay b, Nat.le_trans (data_depth b) (by omega)⟩
theorem len_words : (Str.ofString "source").length ≤ 1000000 ∧ (Str.ofString "every").length ≤ 1000000 ∧ (Str.ofString "gate").length ≤ 1000000 ∧ (Str.ofString "later").length ≤ 1000000 ∧ (Str.ofString "either").length ≤ 1000000 ∧ (Str.ofString "both").length ≤ 1000000 ∧ (Str.ofString "but").length ≤ 1000000 ∧ (Str.ofString "led").length ≤ 1000000 := by decide +kernel
theorem small_str {s : Str} (h : s.length ≤ 1000000) (h2 : PyData.strOk s = true) : textSmall (.str s) = true := by
  show (decide (s.length ≤ 1000000) && PyData.strOk s) = true
  rw [decide_eq_true h, h2]
  rfl
theorem small_data (b : Beat) : textSmall b.data = true := by cases b <;> rfl
theorem fine_int (i : Int) : fine (.int i) = true := by
  simp [fine, finB, dGood, headFlat, PyData.depth, shaped_iff, PyData.canLay0]
theorem fine_str {s : Str} (h2 : PyData.strOk s = true) : fine (.str s) = true := by
  simp [fine, finB, dGood, headFlat, PyData.depth, shaped_iff, PyData.canLay0, h2]
theorem fine_tup {w : Str} {r : List PyData} (hs : SeqAt.shaped (.tuple (.str w :: r)) = true) (hd : PyData.depth (.tuple (.str w :: r)) ≤ 63) (ht : textSmall (.str w) = true) (hts : ∀ d ∈ r, textSmall d = true) (hf : ∀ d ∈ r, fine d = true) : fine (.tuple (.str w :: r)) = true := by
  have h1 := (shaped_iff.mp (shaped_cons hs).1).1
  rw [PyData.canLay0] at h1
  rw [fine, Bool.and_eq_true]
  refine ⟨?_, ?_⟩
  · unfold finB dGood
    rw [hs, decide_eq_true hd]
    simp only [headFlat, flatD, Bool.true_and, Bool.and_true, List.all_cons, ht]
    exact List.all_eq_true.mpr hts
  · rw [fineAll, fine_str h1, Bool.true_and]
    have : ∀ l : List PyData, (∀ d ∈ l, fine d = true) → fineAll l = true := by
      intro l
      induction l with
      | nil => intro _; rfl
      | cons d r ih =>
        intro h
        rw [fineAll, h d List.mem_cons_self, ih fun x hx => h x (List.mem_cons_of_mem _ hx)]
        rfl
    exact this r hf
theorem small_bits {bits : List Bool} (h : bits.length ≤ 12) : textSmall (.str (bitsStr bits)) = true := small_str (by rw [bitsStr_len]; omega) (bits_strOk bits)
theorem data_fine : ∀ b : Beat, b.ok → b.size ≤ 63 → fine b.data = true
  | .source, _, _ => fine_tup (data_shaped (b := .source) (by decide)) (by simp [PyData.depth, PyData.depthAll]) (small_str len_words.1 words_str.1) (fun d hd => (nomatch hd)) (fun d hd => (nomatch hd))
  | .every n k b, h, hs => by
    have hs' : b.size + 1 ≤ 63 := hs
    have hb := data_fine b h.2.2.2 (by omega)
    refine fine_tup (data_shaped (b := .every n k b) hs) (Nat.le_trans (data_depth (.every n k b)) hs) (small_str len_words.2.1 words_str.2.1) (fun d hd => ?_) (fun d hd => ?_)
    · simp only [List.mem_cons, List.not_mem_nil, or_false] at hd
      rcases hd with rfl | rfl | rfl
      · rfl
      · rfl
      · exact small_data b
    · simp only [List.mem_cons, List.not_mem_nil, or_false] at hd
      rcases hd with rfl | rfl | rfl
      · exact fine_int _
      · exact fine_int _
      · exact hb
  | .gate bits b, h, hs => by
    have hs' : b.size + 1 ≤ 63 := hs
    have hb := data_fine b h.2.2 (by omega)
    refine fine_tup (data_shaped (b := .gate bits b) hs) (Nat.le_trans (data_depth (.gate bits b)) hs) (small_str len_words.2.2.1 words_str.2.2.1) (fun d hd => ?_) (fun d hd => ?_)
    · simp only [List.mem_cons, List.not_mem_nil, or_false] at hd
      rcases hd with rfl | rfl
      · exact small_bits h.2.1
      · exact small_data b
    · simp only [List.mem_cons, List.not_mem_nil, or_false] at hd
      rcases hd with rfl | rfl
      · exact fine_str (bits_strOk bits)
      · exact hb
  | .later m b, h, hs => by
    have hs' : b.size + 1 ≤ 63 := hs
    have hb := data_fine b h.2 (by omega)
    refine fine_tup (data_shaped (b := .later m b) hs) (Nat.le_trans (data_depth (.later m b)) hs) (small_str len_words.2.2.2.1 words_str.2.2.2.1) (fun d hd => ?_) (fun d hd => ?_)
    · simp only [List.mem_cons, List.not_mem_nil, or_false] at hd
      rcases hd with rfl | rfl
      · rfl
      · exact small_data b
    · simp only [List.mem_cons, List.not_mem_nil, or_false] at hd
      rcases hd with rfl | rfl
      · exact fine_int _
      · exact hb
  | .two w a b, h, hs => by
    have hs' : a.size + b.size + 1 ≤ 63 := hs
    have ha := data_fine a h.1 (by omega)
    have hb := data_fine b h.2 (by omega)
    refine fine_tup (data_shaped (b := .two w a b) hs) (Nat.le_trans (data_depth (.two w a b)) hs) (small_str (by cases w <;> simp [Two.word, len_words]) (word_str w)) (fun d hd => ?_) (fun d hd => ?_)
    · simp only [List.mem_cons, List.not_mem_nil, or_false] at hd
      rcases hd with rfl | rfl
      · exact small_data a
      · exact small_data b
    · simp only [List.mem_cons, List.not_mem_nil, or_false] at hd
      rcases hd with rfl | rfl
      · exact ha
      · exact hb
  | .led a many b first, h, hs => by
    have hs' : a.size + b.size + 1 ≤ 63 := hs
    have ha := data_fine a h.2.2.1 (by omega)
    have hb := data_fine b h.2.2.2 (by omega)
    refine fine_tup (data_shaped (b := .led a many b first) hs) (Nat.le_trans (data_depth (.led a many b first)) hs) (small_str len_words.2.2.2.2.2.2.2 words_str.2.2.2.2.2.2.2) (fun d hd => ?_) (fun d hd => ?_)
    · simp only [List.mem_cons, List.not_mem_nil, or_false] at hd
      rcases hd with rfl | rfl | rfl | rfl
      · exact small_data a
      · rfl
      · exact small_data b
      · rfl
    · simp only [List.mem_cons, List.not_mem_nil, or_false] at hd
      rcases hd with rfl | rfl | rfl | rfl
      · exact ha
      · exact fine_int _
      · exact hb
      · exact fine_int _

/-! ### forms of beats -/
def Beat.simple : Beat → Prop
  | .source => True
  | .every _ _ b | .gate _ b | .later _ b => b.simple
  | .two _ _ _ | .led _ _ _ _ => False
/-- a form but for what is too late -/
def mk : Beat → Option Form
  | .source => some ⟨[], [0], 1⟩
  | .every n k b => (fm b).bind fun f => gated f (everyBits n k)
  | .gate bits b => (fm b).bind fun f => gated f bits
  | .later m b => (fm b).bind fun f => some (laterF f m)
  | .two w a b => (fm a).bind fun f => (fm b).bind fun g => ofTwo w f g
  | .led a many b first => (fm a).bind fun f => (fm b).bind fun g => some (ledForm f many g first)
theorem fm_mk (b : Beat) : fm b = (mk b).bind checked := by
  cases b <;> simp [fm, mk, Option.bind_assoc]
/-- what is known of a form told -/
structure Told (f : Form) : Prop where
  wf : WF f
  late : lateOf f ≤ 5040
theorem Told.few {f : Form} (t : Told f) : Few f := few_of t.wf t.late
theorem source_wf : WF ⟨[], [0], 1⟩ := ⟨by simp, by simp, fun z => (nomatch z), fun _ => ⟨by simp, by show (0 : Int) < 1; decide, by show (0 : Int) < 0 + 1; decide⟩, by show (1 : Int) ≤ 5040; decide⟩
theorem every_len {n k : Nat} (h : k < n) : (everyBits n k).length = n := by
  unfold everyBits
  simp
  omega
structure ToldOf (allow : Prop) : Prop where
  two : allow → ∀ w f g h, Told f → Told g → ofTwo w f g = some h → WF h
  led : allow → ∀ f many g first, Told f → Told g → WF (ledForm f many g first)
theorem ToldOf.never : ToldOf False := ⟨fun h => h.elim, fun h => h.elim⟩
theorem fm_told {allow : Prop} (T : ToldOf allow) : ∀ b : Beat, b.ok → (allow ∨ b.simple) → ∀ f, fm b = some f → Told f := by
  have wrap : ∀ b : Beat, (∀ g, mk b = some g → WF g) → ∀ f, fm b = some f → Told f := fun b h f e => by
    rw [fm_mk] at e
    obtain ⟨g, e1, e2⟩ := Option.bind_eq_some_iff.mp e
    obtain ⟨rfl, hl⟩ := checked_some e2
    exact ⟨h _ e1, hl⟩
  intro b
  induction b with
  | source =>
    intro _ _
    refine wrap _ fun g e => ?_
    cases e
    exact source_wf
  | every n k b ih =>
    intro h hs
    refine wrap _ fun g e => ?_
    obtain ⟨f, e1, e2⟩ := Option.bind_eq_some_iff.mp e
    have hf := ih h.2.2.2 hs f e1
    exact gated_wf hf.wf (by rw [every_len h.2.2.1]; exact h.1) e2
  | gate bits b ih =>
    intro h hs
    refine wrap _ fun g e => ?_
    obtain ⟨f, e1, e2⟩ := Option.bind_eq_some_iff.mp e
    have hf := ih h.2.2 hs f e1
    exact gated_wf hf.wf h.1 e2
  | later m b ih =>
    intro h hs
    refine wrap _ fun g e => ?_
    obtain ⟨f, e1, e2⟩ := Option.bind_eq_some_iff.mp e
    cases e2
    exact later_wf (ih h.2 hs f e1).wf m
  | two w a b iha ihb =>
    intro h hs
    have ha : allow := hs.resolve_right fun z => z
    refine wrap _ fun g e => ?_
    obtain ⟨f, e1, e2⟩ := Option.bind_eq_some_iff.mp e
    obtain ⟨g', e3, e4⟩ := Option.bind_eq_some_iff.mp e2
    exact T.two ha w f g' g (iha h.1 (.inl ha) f e1) (ihb h.2 (.inl ha) g' e3) e4
  | led a many b first iha ihb =>
    intro h hs
    have ha : allow := hs.resolve_right fun z => z
    refine wrap _ fun g e => ?_
    obtain ⟨f, e1, e2⟩ := Option.bind_eq_some_iff.mp e
    obtain ⟨g', e3, e4⟩ := Option.bind_eq_some_iff.mp e2
    cases e4
    exact T.led ha f many g' first (iha h.2.2.1 (.inl ha) f e1) (ihb h.2.2.2 (.inl ha) g' e3)
theorem kids_small {allow : Prop} {b : Beat} (h : allow ∨ b.simple) : ∀ x ∈ b.kids, allow ∨ x.simple := by
  rcases h with h | h
  · exact fun x _ => .inl h
  · cases b <;> simp [Beat.kids, Beat.simple] at h ⊢ <;> exact .inr h
/-- of two beats' forms -/
def spTwo (allow : Prop) (C : Addr) : Sp := fun vs H Q E => ∃ (w : Two) (v1 v2 : V) (f g : Form), vs = [.str w.word, v1, v2] ∧ allow ∧ FormAt H v1 f ∧ FormAt H v2 g ∧ Told f ∧ Told g ∧
  (∀ h, ofTwo w f g = some h → ∀ v' H', Ex H H' → FormNew H H' v' h → Q v' H') ∧ (ofTwo w f g = none → ∀ H', Ex H H' → E (.ref C) none H')
def spLed (allow : Prop) : Sp := fun vs H Q _ => ∃ (v1 v2 : V) (f g : Form) (many first : Nat), vs = [v1, .int (many : Int), v2, .int (first : Int)] ∧ allow ∧ many ≤ 9999 ∧ first ≤ 9999 ∧ FormAt H v1 f ∧ FormAt H v2 g ∧ Told f ∧ Told g ∧
  ∀ v' H', Ex H H' → FormNew H H' v' (ledForm f many g first) → Q v' H'
/-- a beat of at most n tuples -/
def spMk (K : PySem.W.Frag) (allow : Prop) (C : Addr) (n : Nat) : Sp := fun vs H Q E => ∃ (v : V) (b : Beat), vs = [v] ∧ Dp K H v b.data ∧ b.ok ∧ (allow ∨ b.simple) ∧ b.size ≤ n ∧
  (∀ f, mk b = some f → ∀ v' H', Ex H H' → FormNew H H' v' f → Q v' H') ∧ (mk b = none → ∀ H', Ex H H' → E (.ref C) none H')
def spFm (K : PySem.W.Frag) (allow : Prop) (C : Addr) (n : Nat) : Sp := fun vs H Q E => ∃ (v : V) (b : Beat), vs = [v] ∧ Dp K H v b.data ∧ b.ok ∧ (allow ∨ b.simple) ∧ b.size ≤ n ∧
  (∀ f, fm b = some f → Told f → ∀ v' H', Ex H H' → FormNew H H' v' f → Q v' H') ∧ (fm b = none → ∀ H', Ex H H' → E (.ref C) none H')
theorem bits_app (a b : List Bool) : bitsStr (a ++ b) = bitsStr a ++ bitsStr b := by
  show (⟨((a ++ b).map bitC).toArray⟩ : Str) = ⟨(a.map bitC).toArray ++ (b.map bitC).toArray⟩
  simp
def spForm (K : PySem.W.Frag) (allow : Prop) (C : Addr) : Sp := fun vs H Q E => ∃ (v : V) (b : Beat), vs = [v] ∧ Dp K H v b.data ∧ b.ok ∧ (allow ∨ b.simple) ∧ b.size ≤ 30 ∧
  (∀ f, fm b = some f → Told f → ∀ v' H', Ex H H' → FormNew H H' v' f → Q v' H') ∧ (fm b = none → ∀ H', Ex H H' → E (.ref C) none H')
def rateZ (f : Form) : Int × Int := if f.round ≠ [] then ((f.round.length : Int) / gcdZ f.round.length f.len, f.len / gcdZ f.round.length f.len) else (0, 1)
def spRateOf : Sp := fun vs H Q _ => ∃ (v : V) (f : Form), vs = [v] ∧ FormAt H v f ∧ Few f ∧ ∀ p H', Ex H H' → H p = none → H' p = some (.tup [.int (rateZ f).1, .int (rateZ f).2]) → Q (.ref p) H'
/-- the rate of a beat -/
def spRate (K : PySem.W.Frag) (allow : Prop) (C : Addr) : Sp := fun vs H Q E => ∃ (v : V) (b : Beat), vs = [v] ∧ Dp K H v b.data ∧ b.ok ∧ (allow ∨ b.simple) ∧ b.size ≤ 30 ∧
  (∀ f, fm b = some f → Told f → ∀ p H', Ex H H' → H p = none → H' p = some (.tup [.int (rateZ f).1, .int (rateZ f).2]) → Q (.ref p) H') ∧ (fm b = none → ∀ H', Ex H H' → E (.ref C) none H')

/-! ### of two -/
theorem max_of {x y : Int} : (if y > x then y else x) = max x y := by
  split <;> omega
theorem told_start {f : Form} (t : Told f) : startOf f ≤ 5041 := by
  unfold startOf
  have := t.late
  by_cases hr : f.round ≠ []
  · rw [if_pos hr]
    rw [lateOf_round hr] at this
    omega
  · rw [if_neg hr]
    by_cases hf : f.front ≠ []
    · rw [if_pos hf]
      rw [lateOf_front (by simpa using hr) hf] at this
      omega
    · rw [if_neg hf]
      omega

/-! ### led ones -/
theorem tk_le {f : Form} (T : Told f) {i : Nat} {x : Int} (h : tk f i = some x) : x ≤ 10100 + 5040 * (i : Int) := by
  have hs := told_start T
  by_cases hi : i < f.front.length
  · rw [tk_front hi] at h
    have := front_start T.wf (List.mem_of_getElem? h)
    omega
  · by_cases hr : f.round = []
    · rw [tk_end hr (by omega)] at h; cases h
    · rw [show i = f.front.length + (i - f.front.length) by omega, tk_round hr] at h
      cases h
      have hn : 0 < f.round.length := List.length_pos_iff.mpr hr
      have h1 := (round_lt T.wf hr (getD_mem (Nat.mod_lt (i - f.front.length) hn))).2
      have h2 : startOf f = f.round.headD 0 := by unfold startOf; rw [if_pos hr]
      have h3 := T.wf.short
      have h4 : (((i - f.front.length) / f.round.length : Nat) : Int) * f.len ≤ (i : Int) * 5040 := by
        have h5 : (i - f.front.length) / f.round.length ≤ i := Nat.le_trans (Nat.div_le_self _ _) (by omega)
        have h6 := (T.wf.rnd hr).pos
        exact Int.mul_le_mul (by omega) h3 (by omega) (by omega)
      unfold rt
      omega
theorem mine_len {f : Form} {i : Nat} (h : ∀ j, j < i → ∃ x, tk f j = some x) : (mineOf f i).length = i := by
  rcases Nat.lt_trichotomy (mineOf f i).length i with z | z | z
  · obtain ⟨x, hx⟩ := h _ z
    have := mine_get (f := f) (many := i) (j := (mineOf f i).length)
    rw [if_pos z, hx, List.getElem?_eq_none (Nat.le_refl _)] at this
    cases this
  · exact z
  · have := mine_get (f := f) (many := i) (j := i)
    rw [if_neg (by omega), List.getElem?_eq_getElem z] at this
    cases this
theorem mine_succ {f : Form} {i : Nat} {x : Int} (h : tk f i = some x) : mineOf f (i + 1) = mineOf f i ++ [x] := by
  have hl := mine_len (f := f) (i := i) fun j hj => tk_down h (by omega)
  refine List.ext_getElem? fun j => ?_
  rw [mine_get, List.getElem?_append, hl, mine_get]
  by_cases h1 : j < i
  · rw [if_pos (by omega), if_pos h1, if_pos h1]
  · rw [if_neg h1]
    by_cases h2 : j = i
    · subst h2
      rw [if_pos (by omega), h, Nat.sub_self]
      rfl
    · rw [if_neg (by omega), List.getElem?_eq_none]
      simp
      omega
theorem mine_stop {f : Form} {i many : Nat} (h : tk f i = none) (hi : i ≤ many) : mineOf f many = mineOf f i := by
  refine List.ext_getElem? fun j => ?_
  rw [mine_get, mine_get]
  by_cases h1 : j < i
  · rw [if_pos (by omega), if_pos h1]
  · rw [if_neg h1]
    split
    · cases h2 : tk f j with
      | none => rfl
      | some y =>
        obtain ⟨x, hx⟩ := tk_down h2 (show i ≤ j by omega)
        rw [h] at hx
        cases hx
    · rfl
theorem mine_le {f : Form} {i : Nat} : (mineOf f i).length ≤ i := by
  rcases Nat.lt_or_ge i (mineOf f i).length with z | z
  · have := mine_get (f := f) (many := i) (j := i)
    rw [if_neg (by omega), List.getElem?_eq_getElem z] at this
    cases this
  · exact z
theorem tt_cut {tt : TT} {σ : L2.St} {H : Hp} {Q : Bool → Hp → Prop} (b : Bool) (h1 : ∀ Q' : Bool → Hp → Prop, (∀ H', Ex H H' → Q' b H') → tt σ H Q') (h2 : ∀ H', Ex H H' → Q b H') : tt σ H Q := h1 _ h2
theorem te_cut {te : TE} {σ : L2.St} {H : Hp} {Q : VK} (v : V) (h1 : ∀ Q' : VK, (∀ H', Ex H H' → Q' v H') → te σ H Q') (h2 : ∀ H', Ex H H' → Q v H') : te σ H Q := h1 _ h2
theorem seq_asg_cut {te : TE} {g : TG} {r : TS} {D : L2.Ends} {σ : L2.St} {H : Hp} (v : V) (h1 : ∀ Q' : VK, (∀ H', Ex H H' → Q' v H') → te σ H Q') (h2 : ∀ H', Ex H H' → g v σ H' (fun σ2 H2 => r D σ2 H2)) : tSeq (tAsg te g) r D σ H := h1 _ h2

/-! ### beats drawn -/
theorem ToldOf.all : ToldOf True := ⟨fun _ w f g h F G e => (ofTwo_spec F.wf G.wf e).1, fun _ f many g first F G => (led_spec F.wf G.wf).1⟩
/-- the greatest number of moments of a beat or one within -/
def wm : Beat → Nat
  | .source => 1
  | .every n _ b => wm b * n
  | .gate bits b => wm b * bits.length
  | .later _ b => wm b
  | .two _ a b => wm a * wm b
  | .led a _ b _ => max (wm a) (wm b)
theorem wm_pos : ∀ {b : Beat}, b.ok → 1 ≤ wm b
  | .source, _ => Nat.le_refl 1
  | .every n k b, h => Nat.mul_pos (wm_pos h.2.2.2) (by have := h.1; omega)
  | .gate bits b, h => Nat.mul_pos (wm_pos h.2.2) (by have := h.1; omega)
  | .later m b, h => (wm_pos (b := b) h.2 : 1 ≤ wm b)
  | .two w a b, h => Nat.mul_pos (wm_pos h.1) (wm_pos h.2)
  | .led a many b first, h => by
    have := wm_pos (b := a) h.2.2.1
    show 1 ≤ max (wm a) (wm b)
    omega
theorem bd_wm : ∀ {b : Beat}, b.ok → (bd b).2 ≤ wm b
  | .source, _ => Nat.le_refl 1
  | .every n k b, h => Nat.mul_le_mul_right _ (bd_wm h.2.2.2)
  | .gate bits b, h => Nat.mul_le_mul_right _ (bd_wm h.2.2)
  | .later m b, h => (bd_wm (b := b) h.2 : (bd b).2 ≤ wm b)
  | .two w a b, h => Nat.le_trans lcmN_le (Nat.mul_le_mul (bd_wm h.1) (bd_wm h.2))
  | .led a many b first, h => by
    have := bd_wm (b := b) h.2.2.2
    show (bd b).2 ≤ max (wm a) (wm b)
    omega
/-- how many brackets a beat's text opens -/
def opensN : Beat → Nat
  | .source => 0
  | .every _ _ b => opensN b + 1
  | .gate _ b => opensN b + 1
  | .later _ b => opensN b + 1
  | .two _ a b => opensN a + opensN b + 1
  | .led a _ b _ => opensN a + opensN b + 1
structure Drawn (b : Beat) (d : Nat) : Prop where
  ok : b.ok
  size : b.size < 2 ^ (d + 1)
  wm : wm b ≤ 12 ^ (2 ^ d - 1)
  opens : opensN b < 2 ^ d
theorem drawn_source (d : Nat) : Drawn .source d := ⟨trivial, Nat.one_lt_pow (by omega) (by omega), by show 1 ≤ 12 ^ _; exact Nat.pow_pos (by decide), Nat.pow_pos (by decide)⟩
theorem pow_two (d : Nat) : 2 ^ (d + 1) = 2 ^ d + 2 ^ d := by rw [Nat.pow_succ]; omega
theorem pow_one (d : Nat) : 1 ≤ 2 ^ d := Nat.pow_pos (by decide)
theorem drawn_one {b c : Beat} {d n : Nat} (h : Drawn b d) (hok : c.ok) (hn : n ≤ 12) (hs : c.size = b.size + 1) (hw : TD.wm c = TD.wm b * n ∨ TD.wm c = TD.wm b) (ho : opensN c = opensN b + 1 := by rfl) : Drawn c (d + 1) := by
  have h0 := h.opens
  have h1 := h.size
  have h2 := h.wm
  have p1 := pow_two d
  have p2 := pow_two (d + 1)
  have p0 := pow_one d
  refine ⟨hok, by omega, ?_, by omega⟩
  have e : TD.wm c ≤ 12 ^ (2 ^ d - 1) * 12 := by
    rcases hw with e | e
    · rw [e]; exact Nat.mul_le_mul h2 hn
    · rw [e]; omega
  rw [← Nat.pow_succ] at e
  exact Nat.le_trans e (Nat.pow_le_pow_right (by decide) (by omega))
theorem drawn_two {a b c : Beat} {d : Nat} (ha : Drawn a d) (hb : Drawn b d) (hok : c.ok) (hs : c.size = a.size + b.size + 1) (hw : TD.wm c ≤ TD.wm a * TD.wm b) (ho : opensN c = opensN a + opensN b + 1 := by rfl) : Drawn c (d + 1) := by
  have h4 := ha.opens
  have h5 := hb.opens
  have h1 := ha.size
  have h3 := hb.size
  have p1 := pow_two d
  have p2 := pow_two (d + 1)
  have p0 := pow_one d
  refine ⟨hok, by omega, ?_, by omega⟩
  have e : TD.wm c ≤ 12 ^ (2 ^ d - 1) * 12 ^ (2 ^ d - 1) := Nat.le_trans hw (Nat.mul_le_mul ha.wm hb.wm)
  rw [← Nat.pow_add] at e
  exact Nat.le_trans e (Nat.pow_le_pow_right (by decide) (by omega))
theorem bits_of : ∀ {xs : List V}, (∀ x ∈ xs, ∃ b, x = sB b) → ∃ bits : List Bool, xs = bits.map sB
  | [], _ => ⟨[], rfl⟩
  | x :: xs, h => by
    obtain ⟨b, rfl⟩ := h x List.mem_cons_self
    obtain ⟨bits, rfl⟩ := bits_of fun y hy => h y (List.mem_cons_of_mem _ hy)
    exact ⟨b :: bits, rfl⟩
theorem at_five {r : Int} (h0 : 0 ≤ r) (h1 : r < 4) : ∃ n : Int, atI [V.int 5, V.int 5, V.int 5, V.int 12] r = some (.int n) ∧ 1 ≤ n ∧ n ≤ 12 := by
  have : r = 0 ∨ r = 1 ∨ r = 2 ∨ r = 3 := by omega
  rcases this with rfl | rfl | rfl | rfl
  · exact ⟨5, atI_nat (j := 0) rfl, by omega, by omega⟩
  · exact ⟨5, atI_nat (j := 1) rfl, by omega, by omega⟩
  · exact ⟨5, atI_nat (j := 2) rfl, by omega, by omega⟩
  · exact ⟨12, atI_nat (j := 3) rfl, by omega, by omega⟩
theorem at_words {r : Int} (h0 : 0 ≤ r) (h1 : r < 3) : ∃ w : Two, atI [V.str "either", V.str "both", V.str "but"] r = some (.str w.word) := by
  have : r = 0 ∨ r = 1 ∨ r = 2 := by omega
  rcases this with rfl | rfl | rfl
  · exact ⟨.either, atI_nat (j := 0) rfl⟩
  · exact ⟨.both, atI_nat (j := 1) rfl⟩
  · exact ⟨.but, atI_nat (j := 2) rfl⟩
theorem at_signs {r : Int} (h0 : 0 ≤ r) (h1 : r < 2) : ∃ b : Bool, atI (Str.ofString "01").cps.toList r = some (bitC b) := by
  have : r = 0 ∨ r = 1 := by omega
  rcases this with rfl | rfl
  · exact ⟨false, by decide +kernel⟩
  · exact ⟨true, by decide +kernel⟩
theorem nat_of {r : Int} (h : 0 ≤ r) : ∃ n : Nat, r = (n : Int) := Int.eq_ofNat_of_zero_le h
theorem sc__law_beat : FnScope ["_law_h", "_law_deep", "_law_way", "_law_count", "_law_some", "_law_k", "_law_word", "_law_one", "_law_other"] ["_law_h", "_law_deep"] (defScope s__law_beat) := ⟨rfl, rfl, rfl, by decide +kernel, rfl, by decide +kernel, by decide +kernel⟩
def spBeatL (K : PySem.W.Frag) (n : Nat) : Sp := fun vs H Q _ => ∃ (h : Addr) (deep : Int), vs = [.ref h, .int deep] ∧ Rng H h ∧ 0 ≤ deep ∧ deep < n ∧ ∀ v H' b, Ex H H' → Dp K H' v b.data → Drawn b deep.toNat → Q v H'
theorem step__law_beat {f : Addr} {fd : FuncData} (F : Fun K "_law_beat" "_law_beat" s__law_beat f fd) (B : Blt mg) {n k : Nat} (hk : 1 ≤ k) (c__law_next : Dn P w K mg base 1 "_law_next" spNext) (c__law_beat : Dn P w K mg base k "_law_beat" (spBeatL K n)) :
    FnOk P w K mg base CX0 (k + 1) f fd ["_law_h", "_law_deep"] (spBeatL K (n + 1)) := by
  have nd := sc__law_beat.nd
  refine F.ok sc__law_beat (fun vs H Q E h => ?_) (fun cdv A outer s H vs Q E hr h => ?_)
  · obtain ⟨h, d, rfl, _⟩ := h
    rfl
  · obtain ⟨h, deep, rfl, hR, d0, d1, q⟩ := h
    refine ⟨_, 
    (pss_cons (ps_set (i := 2) nd rfl (Or.inl rfl) (pe_d c__law_next hr (by omega) passL (by rfl) (pa_cons (pv 0) (pa_cons pe_int pa_nil))))
    (pss_cons (ps_if (PW.pt (pw_or (pt_cmpR op_eq (pv 1) pe_int (nomark _)) (pw_or1 (pt_cmpR op_eq (pv 2) pe_int (nomark _))))) (pss_one (ps_ret (pe_tupN (pa_cons pe_str pa_nil)))) pss_nil)
    (pss_cons (ps_if (pt_cmpR op_lt (pv 2) pe_int (nomark _)) (pss_cons (ps_set (i := 3) nd rfl (Or.inl rfl) (pe_op op_add pe_int (pe_d c__law_next hr (by omega) passL (by rfl) (pa_cons (pv 0) (pa_cons (pe_ix (ixl (K := K) rfl) (pe_lstN (pa_cons pe_int (pa_cons pe_int (pa_cons pe_int (pa_cons pe_int pa_nil))))) (pe_d c__law_next hr (by omega) passL (by rfl) (pa_cons (pv 0) (pa_cons pe_int pa_nil))) (fun _ _ => rfl)) pa_nil)))))
    (pss_one (ps_ret (pe_tupN (pa_cons pe_str (pa_cons (pv 3) (pa_cons (pe_d c__law_next hr (by omega) passL (by rfl) (pa_cons (pv 0) (pa_cons (pv 3) pa_nil))) (pa_cons (pe_d c__law_beat hr (by omega) passL (by rfl) (pa_cons (pv 0) (pa_cons (pe_op op_sub (pv 1) pe_int) pa_nil))) pa_nil)))))))) pss_nil)
    (pss_cons (ps_if (pt_cmpR op_lt (pv 2) pe_int (nomark _)) (pss_cons (ps_set (i := 3) nd rfl (Or.inl rfl) (pe_op op_add pe_int (pe_d c__law_next hr (by omega) passL (by rfl) (pa_cons (pv 0) (pa_cons (pe_ix (ixl (K := K) rfl) (pe_lstN (pa_cons pe_int (pa_cons pe_int (pa_cons pe_int (pa_cons pe_int pa_nil))))) (pe_d c__law_next hr (by omega) passL (by rfl) (pa_cons (pv 0) (pa_cons pe_int pa_nil))) (fun _ _ => rfl)) pa_nil)))))
    (pss_cons (ps_set (i := 4) nd rfl (Or.inl rfl) (pe_join pe_str (pe_lc (own := [("_law_k", 5)]) (g := gName 5) rfl nd (pi_range1 (by rfl) B.range (pa_cons (pv 3) pa_nil)) (blkOk_by (N := ["_law_h", "_law_deep", "_law_way", "_law_count", "_law_some", "_law_k", "_law_word", "_law_one", "_law_other"]) (sc := defScope s__law_beat) (by decide +kernel)) (fun _ _ _ _ _ => pg_name (i := 5) nd rfl (Or.inl rfl)) (fun _ _ _ _ _ => pts_nil) (fun _ _ _ _ _ => (pe_ix ix_str pe_str (pe_d c__law_next hr (by omega) passL (by rfl) (pa_cons (pv 0) (pa_cons pe_int pa_nil))) (fun _ _ => rfl))))))
    (pss_one (ps_ret (pe_tupN (pa_cons pe_str (pa_cons (pv 4) (pa_cons (pe_d c__law_beat hr (by omega) passL (by rfl) (pa_cons (pv 0) (pa_cons (pe_op op_sub (pv 1) pe_int) pa_nil))) pa_nil)))))))) pss_nil)
    (pss_cons (ps_if (pt_cmpR op_eq (pv 2) pe_int (nomark _)) (pss_one (ps_ret (pe_tupN (pa_cons pe_str (pa_cons (pe_d c__law_next hr (by omega) passL (by rfl) (pa_cons (pv 0) (pa_cons pe_int pa_nil))) (pa_cons (pe_d c__law_beat hr (by omega) passL (by rfl) (pa_cons (pv 0) (pa_cons (pe_op op_sub (pv 1) pe_int) pa_nil))) pa_nil)))))) pss_nil)
    (pss_cons (ps_if (pt_cmpR op_lt (pv 2) pe_int (nomark _)) (pss_cons (ps_set (i := 6) nd rfl (Or.inl rfl) (pe_ix (ixl (K := K) rfl) (pe_lstN (pa_cons pe_str (pa_cons pe_str (pa_cons pe_str pa_nil)))) (pe_d c__law_next hr (by omega) passL (by rfl) (pa_cons (pv 0) (pa_cons pe_int pa_nil))) (fun _ _ => rfl)))
    (pss_one (ps_ret (pe_tupN (pa_cons (pv 6) (pa_cons (pe_d c__law_beat hr (by omega) passL (by rfl) (pa_cons (pv 0) (pa_cons (pe_op op_sub (pv 1) pe_int) pa_nil))) (pa_cons (pe_d c__law_beat hr (by omega) passL (by rfl) (pa_cons (pv 0) (pa_cons (pe_op op_sub (pv 1) pe_int) pa_nil))) pa_nil))))))) pss_nil)
    (pss_cons (ps_set (i := 7) nd rfl (Or.inl rfl) (pe_d c__law_beat hr (by omega) passL (by rfl) (pa_cons (pv 0) (pa_cons (pe_op op_sub (pv 1) pe_int) pa_nil))))
    (pss_cons (ps_set (i := 8) nd rfl (Or.inl rfl) (pe_d c__law_beat hr (by omega) passL (by rfl) (pa_cons (pv 0) (pa_cons (pe_op op_sub (pv 1) pe_int) pa_nil))))
    (pss_one (ps_ret (pe_tupN (pa_cons pe_str (pa_cons (pv 7) (pa_cons (pe_d c__law_next hr (by omega) passL (by rfl) (pa_cons (pv 0) (pa_cons pe_int pa_nil))) (pa_cons (pv 8) (pa_cons (pe_d c__law_next hr (by omega) passL (by rfl) (pa_cons (pv 0) (pa_cons pe_int pa_nil))) pa_nil)))))))))))))))), ?_⟩
    try dsimp only [cxOf, Cx.nox, Cx.wish]
    walk_at "go"
    walk_at "dr"
    intro r1 H1 a1 b1 e1
    walk_at "go"
    have src : ∀ H2 p H3, Ex H H2 → Ex H2 H3 → H3 p = some (.tup [V.str "source"]) → Q (.ref p) H3 := fun H2 p H3 e2 e3 hp => q _ _ .source (e2.trans e3) (.tup (.of hp) (.cons (.str _) .nil)) (drawn_source _)
    refine ite2 (fun c => ?_) (fun c => ?_)
    · walk_at "go"
      refine nT_intro fun p H2 np e2 hp => ?_
      exact src _ p H2 e1 e2 hp
    walk_at "go"
    refine ite2 (fun c2 => ?_) (fun c2 => ?_)
    · walk_at "go"
      refine nT_intro fun p H2 np e2 hp => ?_
      exact src _ p H2 e1 e2 hp
    walk_at "go"
    have hne : deep ≠ 0 := fun z => c (decide_eq_true (congrArg V.int z))
    obtain ⟨d, rfl⟩ : ∃ d : Nat, deep = (d : Int) + 1 := ⟨(deep - 1).toNat, by omega⟩
    rw [show ((d : Int) + 1).toNat = d + 1 by omega] at q
    have hd1 : ((d : Int) + 1 - 1).toNat = d := by omega
    refine ite2 (fun c3 => ?_) (fun c3 => ?_)
    · walk_at "go"
      refine nL_intro fun L2 H2 nL2 e2 hL2 => ?_
      walk_at "go"
      walk_at "dr"
      intro r2 H3 a2 b2 e3
      obtain ⟨n5, hn5, n51, n52⟩ := at_five a2 b2
      walk_at "go"
      refine ⟨L2, _, r2, _, rfl, rfl, .of (e3 _ _ hL2), hn5, ?_⟩
      walk_at "go"
      walk_at "dr"
      intro r3 H4 a3 b3 e4
      obtain ⟨cn, hcn⟩ := nat_of (show 0 ≤ 1 + r3 by omega)
      walk_at "go"
      simp -failIfUnchanged only [hcn]
      walk_at "go"
      walk_at "dr"
      intro r4 H5 a4 b4 e5
      obtain ⟨m4, rfl⟩ := nat_of a4
      walk_at "go"
      walk_at "dr"
      intro v1 H6 x1 e6 dp1 dr1
      rw [hd1] at dr1
      walk_at "go"
      refine nT_intro fun t H7 nt e7 ht => ?_
      refine q _ _ (.every cn m4 x1) (by walk_at "ex") (.tup (.of ht) (.cons (.str _) (.cons (.int _) (.cons (.int _) (.cons (e7.dp dp1) .nil))))) (drawn_one dr1 ⟨by omega, by omega, by omega, dr1.ok⟩ (n := cn) (by omega) rfl (.inl rfl))
    walk_at "go"
    refine ite2 (fun c4 => ?_) (fun c4 => ?_)
    · walk_at "go"
      refine nL_intro fun L2 H2 nL2 e2 hL2 => ?_
      walk_at "go"
      walk_at "dr"
      intro r2 H3 a2 b2 e3
      obtain ⟨n5, hn5, n51, n52⟩ := at_five a2 b2
      walk_at "go"
      refine ⟨L2, _, r2, _, rfl, rfl, .of (e3 _ _ hL2), hn5, ?_⟩
      walk_at "go"
      walk_at "dr"
      intro r3 H4 a3 b3 e4
      obtain ⟨cn, hcn⟩ := nat_of (show 0 ≤ 1 + r3 by omega)
      walk_at "go"
      simp -failIfUnchanged only [hcn]
      walk_at "go"
      refine ⟨⟨_, rfl⟩, ?_⟩
      walk_at "go"
      rw [Int.toNat_natCast]
      refine lc_pick (fun y => ∃ b, y = sB b) Goes.range (by omega) ?_ ?_
      · rintro i x H' hi e rfl R hR2
        refine ⟨rfl, ?_⟩
        walk_at "go"
        walk_at "dr"
        intro r5 H5 a5 b5 e5
        obtain ⟨bb, hbb⟩ := at_signs a5 b5
        walk_at "go"
        refine ⟨_, _, _, rfl, rfl, by decide +kernel, hbb, ?_⟩
        exact hR2 _ _ ⟨bb, rfl⟩ (by walk_at "ex")
      intro L3 H5 xs nL3 e5 hxl hxs hL3
      obtain ⟨bits, rfl⟩ := bits_of hxs
      rw [List.length_map] at hxl
      rw [bits_map] at hL3
      walk_at "go"
      refine ⟨_, L3, _, rfl, rfl, .inl (.of hL3), ?_, ?_⟩
      · rw [strs_sum, show (Str.ofString "").length = 0 by decide +kernel]
        simp
        omega
      rw [join_bits]
      walk_at "go"
      walk_at "dr"
      intro v1 H6 x1 e6 dp1 dr1
      rw [hd1] at dr1
      walk_at "go"
      refine nT_intro fun t H7 nt e7 ht => ?_
      refine q _ _ (.gate bits x1) (by walk_at "ex") (.tup (.of ht) (.cons (.str _) (.cons (.str _) (.cons (e7.dp dp1) .nil)))) (drawn_one dr1 ⟨by omega, by omega, dr1.ok⟩ (n := bits.length) (by omega) rfl (.inl rfl))
    walk_at "go"
    refine ite2 (fun c5 => ?_) (fun c5 => ?_)
    · walk_at "go"
      walk_at "dr"
      intro r2 H2 a2 b2 e2
      obtain ⟨m2, rfl⟩ := nat_of a2
      walk_at "go"
      walk_at "dr"
      intro v1 H6 x1 e6 dp1 dr1
      rw [hd1] at dr1
      walk_at "go"
      refine nT_intro fun t H7 nt e7 ht => ?_
      refine q _ _ (.later m2 x1) (by walk_at "ex") (.tup (.of ht) (.cons (.str _) (.cons (.int _) (.cons (e7.dp dp1) .nil)))) (drawn_one dr1 ⟨by omega, dr1.ok⟩ (n := 1) (by omega) rfl (.inr rfl))
    walk_at "go"
    refine ite2 (fun c6 => ?_) (fun c6 => ?_)
    · walk_at "go"
      refine nL_intro fun L2 H2 nL2 e2 hL2 => ?_
      walk_at "go"
      walk_at "dr"
      intro r2 H3 a2 b2 e3
      obtain ⟨wd, hwd⟩ := at_words a2 b2
      walk_at "go"
      refine ⟨L2, _, r2, _, rfl, rfl, .of (e3 _ _ hL2), hwd, ?_⟩
      walk_at "go"
      walk_at "dr"
      intro v1 H6 x1 e6 dp1 dr1
      rw [hd1] at dr1
      walk_at "go"
      walk_at "dr"
      intro v2 H7 x2 e7 dp2 dr2
      rw [hd1] at dr2
      walk_at "go"
      refine nT_intro fun t H8 nt e8 ht => ?_
      refine q _ _ (.two wd x1 x2) (by walk_at "ex") (.tup (.of ht) (.cons (.str _) (.cons (e8.dp (e7.dp dp1)) (.cons (e8.dp dp2) .nil)))) (drawn_two dr1 dr2 ⟨dr1.ok, dr2.ok⟩ rfl (Nat.le_refl _))
    walk_at "go"
    walk_at "dr"
    intro v1 H6 x1 e6 dp1 dr1
    rw [hd1] at dr1
    walk_at "go"
    walk_at "dr"
    intro v2 H7 x2 e7 dp2 dr2
    rw [hd1] at dr2
    walk_at "go"
    walk_at "dr"
    intro r2 H8 a2 b2 e8
    obtain ⟨m2, rfl⟩ := nat_of a2
    walk_at "go"
    walk_at "dr"
    intro r3 H9 a3 b3 e9
    obtain ⟨m3, rfl⟩ := nat_of a3
    walk_at "go"
    refine nT_intro fun t HA nt eA ht => ?_
    have e7A : Ex H7 HA := by walk_at "ex"
    refine q _ _ (.led x1 m2 x2 m3) (by walk_at "ex") (.tup (.of ht) (.cons (.str _) (.cons (e7A.dp (e7.dp dp1)) (.cons (.int _) (.cons (e7A.dp dp2) (.cons (.int _) .nil)))))) (drawn_two dr1 dr2 ⟨by omega, by omega, dr1.ok, dr2.ok⟩ rfl ?_)
    have w1 := wm_pos dr1.ok
    have w2 := wm_pos dr2.ok
    show max (TD.wm x1) (TD.wm x2) ≤ _
    have g1 : TD.wm x1 * 1 ≤ TD.wm x1 * TD.wm x2 := Nat.mul_le_mul_left _ w2
    have g2 : 1 * TD.wm x2 ≤ TD.wm x1 * TD.wm x2 := Nat.mul_le_mul_right _ w1
    omega
theorem ok__law_beats {f : Addr} {fd : FuncData} (F : Fun K "_law_beat" "_law_beat" s__law_beat f fd) (B : Blt mg) (hm : mg "_law_beat" = some (.ref f)) (hk : PySem.W.keepIn K (.ref f) = true) (hb : Binds K fd ["_law_h", "_law_deep"] [])
    (c__law_next : Dn P w K mg base 1 "_law_next" spNext) : ∀ n, Dn P w K mg base (n + 1) "_law_beat" (spBeatL K n)
  | 0 => .of (FnOk.imp never_ok fun _ _ _ _ h => by
      obtain ⟨_, _, _, _, h0, h1, _⟩ := h
      omega) hm hk hb
  | n + 1 => .of0 (step__law_beat F B (by omega) c__law_next (ok__law_beats F B hm hk hb c__law_next n)) hm hk hb


/-! ### beats of many tuples, few around one another -/
theorem data_high : ∀ b : Beat, PyData.depth b.data ≤ b.high
  | .source => by simp [Beat.data, PyData.depth, PyData.depthAll, Beat.high]
  | .every n k b => by
    have := data_high b
    simp [Beat.data, PyData.depth, PyData.depthAll, Beat.high]
    omega
  | .gate bits b => by
    have := data_high b
    simp [Beat.data, PyData.depth, PyData.depthAll, Beat.high]
    omega
  | .later m b => by
    have := data_high b
    simp [Beat.data, PyData.depth, PyData.depthAll, Beat.high]
    omega
  | .two w a b => by
    have := data_high a
    have := data_high b
    simp [Beat.data, PyData.depth, PyData.depthAll, Beat.high]
    omega
  | .led a many b first => by
    have := data_high a
    have := data_high b
    simp [Beat.data, PyData.depth, PyData.depthAll, Beat.high]
    omega
theorem shaped_high {b : Beat} (h : b.high ≤ 63) : SeqAt.shaped b.data = true := shaped_iff.mpr ⟨data_lay b, Nat.le_trans (data_high b) (by omega)⟩
theorem data_fineH : ∀ b : Beat, b.ok → b.high ≤ 63 → fine b.data = true
  | .source, _, _ => fine_tup (shaped_high (b := .source) (by decide)) (by simp [PyData.depth, PyData.depthAll]) (small_str len_words.1 words_str.1) (fun d hd => (nomatch hd)) (fun d hd => (nomatch hd))
  | .every n k b, h, hs => by
    have hs' : b.high + 1 ≤ 63 := hs
    have hb := data_fineH b h.2.2.2 (by omega)
    refine fine_tup (shaped_high (b := .every n k b) hs) (Nat.le_trans (data_high (.every n k b)) hs) (small_str len_words.2.1 words_str.2.1) (fun d hd => ?_) (fun d hd => ?_)
    · simp only [List.mem_cons, List.not_mem_nil, or_false] at hd
      rcases hd with rfl | rfl | rfl
      · rfl
      · rfl
      · exact small_data b
    · simp only [List.mem_cons, List.not_mem_nil, or_false] at hd
      rcases hd with rfl | rfl | rfl
      · exact fine_int _
      · exact fine_int _
      · exact hb
  | .gate bits b, h, hs => by
    have hs' : b.high + 1 ≤ 63 := hs
    have hb := data_fineH b h.2.2 (by omega)
    refine fine_tup (shaped_high (b := .gate bits b) hs) (Nat.le_trans (data_high (.gate bits b)) hs) (small_str len_words.2.2.1 words_str.2.2.1) (fun d hd => ?_) (fun d hd => ?_)
    · simp only [List.mem_cons, List.not_mem_nil, or_false] at hd
      rcases hd with rfl | rfl
      · exact small_bits h.2.1
      · exact small_data b
    · simp only [List.mem_cons, List.not_mem_nil, or_false] at hd
      rcases hd with rfl | rfl
      · exact fine_str (bits_strOk bits)
      · exact hb
  | .later m b, h, hs => by
    have hs' : b.high + 1 ≤ 63 := hs
    have hb := data_fineH b h.2 (by omega)
    refine fine_tup (shaped_high (b := .later m b) hs) (Nat.le_trans (data_high (.later m b)) hs) (small_str len_words.2.2.2.1 words_str.2.2.2.1) (fun d hd => ?_) (fun d hd => ?_)
    · simp only [List.mem_cons, List.not_mem_nil, or_false] at hd
      rcases hd with rfl | rfl
      · rfl
      · exact small_data b
    · simp only [List.mem_cons, List.not_mem_nil, or_false] at hd
      rcases hd with rfl | rfl
      · exact fine_int _
      · exact hb
  | .two w a b, h, hs => by
    have hs' : max a.high b.high + 1 ≤ 63 := hs
    have ha := data_fineH a h.1 (by omega)
    have hb := data_fineH b h.2 (by omega)
    refine fine_tup (shaped_high (b := .two w a b) hs) (Nat.le_trans (data_high (.two w a b)) hs) (small_str (by cases w <;> simp [Two.word, len_words]) (word_str w)) (fun d hd => ?_) (fun d hd => ?_)
    · simp only [List.mem_cons, List.not_mem_nil, or_false] at hd
      rcases hd with rfl | rfl
      · exact small_data a
      · exact small_data b
    · simp only [List.mem_cons, List.not_mem_nil, or_false] at hd
      rcases hd with rfl | rfl
      · exact ha
      · exact hb
  | .led a many b first, h, hs => by
    have hs' : max a.high b.high + 1 ≤ 63 := hs
    have ha := data_fineH a h.2.2.1 (by omega)
    have hb := data_fineH b h.2.2.2 (by omega)
    refine fine_tup (shaped_high (b := .led a many b first) hs) (Nat.le_trans (data_high (.led a many b first)) hs) (small_str len_words.2.2.2.2.2.2.2 words_str.2.2.2.2.2.2.2) (fun d hd => ?_) (fun d hd => ?_)
    · simp only [List.mem_cons, List.not_mem_nil, or_false] at hd
      rcases hd with rfl | rfl | rfl | rfl
      · exact small_data a
      · rfl
      · exact small_data b
      · rfl
    · simp only [List.mem_cons, List.not_mem_nil, or_false] at hd
      rcases hd with rfl | rfl | rfl | rfl
      · exact ha
      · exact fine_int _
      · exact hb
      · exact fine_int _

theorem look_exact : ∀ (k : Nat) (l : List Beat), (∀ b ∈ l, b.ok) → lookFrom k (l.map Beat.data) = decide ((l.map Beat.size).sum ≤ k)
  | k, [], _ => by cases k <;> rfl
  | 0, b :: r, _ => by
    have := size_pos b
    rw [List.map_cons, List.map_cons, List.sum_cons, decide_eq_false (by omega)]
    rfl
  | k + 1, b :: r, ho => by
    show lookFrom (k + 1) (b.data :: r.map Beat.data) = _
    rw [lookFrom, inner_data (ho b List.mem_cons_self)]
    show lookFrom k ((b.kids.map Beat.data).reverse ++ r.map Beat.data) = _
    rw [← List.map_reverse, ← List.map_append, look_exact k _ (fun x hx => ?_)]
    · have := kids_size b
      simp only [List.map_append, List.sum_append, List.map_reverse, List.sum_reverse, List.map_cons, List.sum_cons]
      exact decide_eq_decide.mpr (by omega)
    · rcases List.mem_append.mp hx with hx | hx
      · exact kids_ok (ho b List.mem_cons_self) x (List.mem_reverse.mp hx)
      · exact ho x (List.mem_cons_of_mem _ hx)
theorem beat_exact {b : Beat} (h : b.ok) : isBeatD b.data = decide (b.size ≤ 30) := by
  have := look_exact 30 [b] (fun x hx => by rw [List.mem_singleton.mp hx]; exact h)
  simp only [List.map_cons, List.map_nil, List.sum_cons, List.sum_nil, Nat.add_zero] at this
  exact this
/-! ### a beat's text -/
def Beat.isSource : Beat → Bool
  | .source => true
  | _ => false
theorem source_is {b : Beat} : (b.isSource = true → b = .source) ∧ (b.isSource = false → b ≠ .source) := by
  cases b <;> refine ⟨fun h => ?_, fun h z => ?_⟩ <;> first | rfl | (simp [Beat.isSource] at h; done) | cases z
theorem source_eqv (b : Beat) : PyData.eqv b.data (.tuple [.str "source"]) = b.isSource := by
  cases b <;> simp [Beat.data, Beat.isSource, PyData.eqv, PyData.eqvAll]
theorem part_dp {H : Hp} {v : V} {b : Beat} (h : Dp K H v b.data) : ∃ (a : Addr) (xs : List V), v = .ref a ∧ SqT K H a xs ∧ DpAll K H xs ((partsOfB b).map (·.1)) := by
  rw [data_parts] at h
  cases h with
  | tup h a => exact ⟨_, _, rfl, h, a⟩
/-- the text of a beat of at most n around one another -/
def spText (K : PySem.W.Frag) (n : Nat) : Sp := fun vs H Q _ => ∃ (v : V) (b : Beat), vs = [v] ∧ Dp K H v b.data ∧ b.ok ∧ b.high < n ∧ b.high ≤ 60 ∧ b.size ≤ 1000 ∧ ∀ H', Ex H H' → Q (.str (noteS b)) H'
theorem log_small {n : Nat} (h : n ≤ 9999) : ((n : Nat) : Int).natAbs.log2 < 1920 := by
  rw [Int.natAbs_natCast]
  by_cases h0 : n = 0
  · subst h0
    decide
  · exact (Nat.log2_lt h0).mpr (Nat.lt_of_le_of_lt h (Nat.lt_of_lt_of_le (show 9999 < 2 ^ 14 by decide) (Nat.pow_le_pow_right (by decide) (by decide))))
theorem sc__law_text : FnScope ["_law_beat_here", "_law_part"] ["_law_beat_here"] (defScope s__law_text) := ⟨rfl, rfl, rfl, by decide +kernel, rfl, by decide +kernel, by decide +kernel⟩
theorem step__law_text {f : Addr} {fd : FuncData} (F : Fun K "_law_text" "_law_text" s__law_text f fd) (B : Blt mg) {n : Nat} (c__law_text : Dn P w K mg base (n + 1) "_law_text" (spText K n)) : FnOk P w K mg base CX0 (n + 2) f fd ["_law_beat_here"] (spText K (n + 1)) := by
  have nd := sc__law_text.nd
  refine F.ok sc__law_text (fun vs H Q E h => ?_) (fun cdv A outer s H vs Q E hr h => ?_)
  · obtain ⟨v, b, rfl, _⟩ := h
    rfl
  · obtain ⟨v, b, rfl, hd, hok, hh, hh2, hs, q⟩ := h
    refine ⟨_, 
    (pss_cons (ps_if (pt_cmpR (eqD (K := K) rfl hr.units) (pv 0) (pe_tupN (pa_cons pe_str pa_nil)) (nomark _)) (pss_one (ps_ret pe_str)) pss_nil)
    (pss_one (ps_ret (pe_op op_add_str (pe_op op_add_str pe_str (pe_join pe_str (pe_lc (own := [("_law_part", 1)]) (g := gName 1) rfl nd (pi_tup (pv 0)) (blkOk_by (N := ["_law_beat_here", "_law_part"]) (sc := defScope s__law_text) (by decide +kernel)) (fun _ _ _ _ _ => pg_name (i := 1) nd rfl (Or.inl rfl)) (fun _ _ _ _ _ => pts_nil) (fun _ _ _ _ _ => (pe_ifExp (pt_val (pe_callB (isiD (K := K) rfl) (by rfl) B.isinstance bt_isinstance (pa_cons (pv 1) (pa_cons (pe_bltn (v := .ty "tuple") (u := Value.type "tuple") (by rfl) B.tuple bt_tuple rfl) pa_nil)))) (pe_d c__law_text hr (by omega) passL (by rfl) (pa_cons (pv 1) pa_nil)) (pe_callTy call_strO (by rfl) B.str bt_str (pa_cons (pv 1) pa_nil))))))) pe_str)))), ?_⟩
    try dsimp only [cxOf, Cx.nox, Cx.wish]
    walk_at "norm"
    walk_at "go"
    refine nT_intro fun t0 H1 nt e1 ht => ?_
    refine ⟨_, .tuple [.str "source"], e1.dp hd, .tup (.of ht) (.cons (.str _) .nil), shaped_high (by omega), shaped_high (b := .source) (by decide), ?_⟩
    rw [source_eqv]
    refine ⟨_, rfl, ?_⟩
    cases hsrc : b.isSource with
    | true =>
      refine iteT ?_
      walk_at "go"
      rw [source_is.1 hsrc, source_note] at q
      exact q _ e1
    | false =>
    have hb := source_is.2 hsrc
    refine iteF ?_
    obtain ⟨a, xs, rfl, hx, hp⟩ := part_dp hd
    have hxl := dpAll_len hp
    rw [List.length_map] at hxl
    have hfew := parts_few b
    have hlen := note_short b hok
    have hsum := parts_sum hb
    walk_at "go"
    refine ⟨⟨_, rfl⟩, ?_⟩
    walk_at "go"
    refine ⟨⟨xs, e1.sqT hx⟩, ?_⟩
    refine lc_all (((partsOfB b).map fun x => strOfL x.2).map V.str) (by simp; omega) (Goes.over (e1.sqT hx)) (by omega) ?_ ?_
    · rintro i x H' hi e' hx' R hR
      refine ⟨rfl, ?_⟩
      have hlt : i < (partsOfB b).length := by omega
      obtain ⟨y0, hy0⟩ : ∃ y, (partsOfB b)[i]? = some y := ⟨_, List.getElem?_eq_getElem hlt⟩
      obtain ⟨v, d, h1, h2, h3⟩ := dpAll_at (e1.dpAll hp) i (by rw [List.length_map]; exact hlt)
      rw [hx'] at h1
      cases h1
      rw [List.getElem?_map, hy0] at h2
      cases h2
      have hmem := List.mem_of_getElem? hy0
      have hl : (((partsOfB b).map fun x => strOfL x.2).map V.str)[i]? = some (.str (strOfL y0.2)) := by simp [hy0]
      have h4 := e'.dp h3
      rcases part_sort hok y0 hmem with ⟨sx, rfl⟩ | ⟨nn, hnn, rfl⟩ | ⟨c, c1, c2, c3, rfl⟩
      · cases h4
        refine ⟨_, rfl, _, "tuple", _, rfl, .str sx, rfl, ?_⟩
        refine ⟨_, rfl, ?_⟩
        refine iteF ?_
        refine ⟨_, rfl, .inr ⟨_, rfl, ?_⟩⟩
        exact hR _ _ (by rw [hl, strOf_tl]) (Ex.refl _)
      · cases h4
        refine ⟨_, rfl, _, "tuple", _, rfl, .int (nn : Int), rfl, ?_⟩
        refine ⟨_, rfl, ?_⟩
        refine iteF ?_
        refine ⟨_, rfl, .inl ⟨_, rfl, log_small hnn, ?_⟩⟩
        exact hR _ _ (by rw [hl, strOf_fig]) (Ex.refl _)
      · refine ⟨_, rfl, _, "tuple", _, rfl, h4, rfl, ?_⟩
        refine ⟨_, rfl, ?_⟩
        rw [show isA "tuple" c.data = true by rw [data_parts]; simp [isA_tab]]
        refine iteT ?_
        refine ⟨_, rfl, _, c, rfl, h4, c1, by omega, by omega, by omega, fun H5 e5 => ?_⟩
        exact hR _ _ hl e5
    intro L H2 nL e2 hL
    have hJ := parts_few b
    refine ⟨_, L, ((partsOfB b).map fun x => strOfL x.2), rfl, rfl, .inl (.of hL), ?_, ?_⟩
    · rw [List.length_map, show (Str.ofString " ").length = 1 by decide +kernel]
      omega
    have hz := congrArg Str.length (note_join hb)
    rw [fold_str, fold_str, note_len, show (Str.ofString "(").length = 1 by decide +kernel, show (Str.ofString ")").length = 1 by decide +kernel] at hz
    have hz2 : 1 + (Txt.join (Str.ofString " ") ((partsOfB b).map fun x => strOfL x.2)).length + 1 ≤ 100000 := by omega
    refine ⟨_, _, rfl, rfl, Nat.le_trans (show _ ≤ 100000 by rw [show (Str.ofString "(").length = 1 by decide +kernel]; omega) (by decide), ?_⟩
    refine ⟨_, _, rfl, rfl, Nat.le_trans (show _ ≤ 100000 by rw [fold_str, show (Str.ofString "(").length = 1 by decide +kernel, show (Str.ofString ")").length = 1 by decide +kernel]; omega) (by decide), ?_⟩
    have hq := q _ (e1.trans e2)
    rw [← note_join hb] at hq
    exact hq
theorem ok__law_texts {f : Addr} {fd : FuncData} (F : Fun K "_law_text" "_law_text" s__law_text f fd) (B : Blt mg) (hm : mg "_law_text" = some (.ref f)) (hk : PySem.W.keepIn K (.ref f) = true) (hb : Binds K fd ["_law_beat_here"] []) :
    ∀ n, Dn P w K mg base (n + 1) "_law_text" (spText K n)
  | 0 => .of (FnOk.imp never_ok fun _ _ _ _ h => by
      obtain ⟨_, _, _, _, _, h0, _⟩ := h
      omega) hm hk hb
  | n + 1 => .of0 (step__law_text F B (ok__law_texts F B hm hk hb n)) hm hk hb
def spWritten (K : PySem.W.Frag) (C : Addr) : Sp := fun vs H Q E => ∃ (v : V) (b : Beat), vs = [v] ∧ Dp K H v b.data ∧ b.ok ∧ b.high ≤ 60 ∧
  (b.size ≤ 30 → ∀ H', Ex H H' → Q (.str (noteS b)) H') ∧ (¬ b.size ≤ 30 → ∀ H', Ex H H' → E (.ref C) none H')

/-! ### the reader's methods -/
theorem sto_place {H : Hp} {r C dx : Addr} {T : Str} {p m z : Int} {N : Hp → Prop} (hr : H r = some (.ins C dx (rdF T p m))) (RC : RdC K mg C) (q : ∀ H', Exb r H H' → H' r = some (.ins C dx (rdF T z m)) → N H') : ∃ a C dx fs, V.ref r = .ref a ∧ H a = some (.ins C dx fs) ∧ Cls K C ∧ NoAttr K C (Str.ofString "place") ∧ fs.length < 1000 ∧ N (upd H a (.ins C dx (putF (Str.ofString "place") (.int z) fs))) :=
  ⟨r, C, dx, _, rfl, hr, RC.cl, RC.nP, rdF_len _ _ _, q _ Exb.put (by rw [upd_same, put_place])⟩
theorem sto_many {H : Hp} {r C dx : Addr} {T : Str} {p m z : Int} {N : Hp → Prop} (hr : H r = some (.ins C dx (rdF T p m))) (RC : RdC K mg C) (q : ∀ H', Exb r H H' → H' r = some (.ins C dx (rdF T p z)) → N H') : ∃ a C dx fs, V.ref r = .ref a ∧ H a = some (.ins C dx fs) ∧ Cls K C ∧ NoAttr K C (Str.ofString "many") ∧ fs.length < 1000 ∧ N (upd H a (.ins C dx (putF (Str.ofString "many") (.int z) fs))) :=
  ⟨r, C, dx, _, rfl, hr, RC.cl, RC.nM, rdF_len _ _ _, q _ Exb.put (by rw [upd_same, put_many])⟩
theorem sc_Reader___init__ : FnScope ["self", "text"] ["self", "text"] (defScope s_Reader___init__) := ⟨rfl, rfl, rfl, by decide +kernel, rfl, by decide +kernel, by decide +kernel⟩
def spRInit (C : Addr) : Sp := fun vs H Q _ => ∃ (r dx : Addr) (T : Str), vs = [.ref r, .str T] ∧ H r = some (.ins C dx []) ∧ ∀ H', Exb r H H' → H' r = some (.ins C dx (rdF T 0 0)) → Q .non H'
theorem ok_rdInit {f C : Addr} {fd : FuncData} (F : Fun K "__init__" "Reader.__init__" s_Reader___init__ f fd) (RC : RdC K mg C) : FnOk P w K mg base CX0 1 f fd ["self", "text"] (spRInit C) := by
  have nd := sc_Reader___init__.nd
  refine F.ok sc_Reader___init__ (fun vs H Q E h => ?_) (fun cdv A outer s H vs Q E hr h => ?_)
  · obtain ⟨r, dx, T, rfl, _⟩ := h
    rfl
  · obtain ⟨r, dx, T, rfl, hr0, q⟩ := h
    refine ⟨_, 
    (pss_cons (ps_fld (pv 0) (pv 1) rfl)
    (pss_cons (ps_fld (pv 0) pe_int rfl)
    (pss_one (ps_fld (pv 0) pe_int rfl)))), ?_⟩
    try dsimp only [cxOf, Cx.nox, Cx.wish]
    refine ⟨_, rfl, _, rfl, r, C, dx, [], rfl, hr0, RC.cl, RC.nT, by show (0 : Nat) < 1000; decide, ?_⟩
    refine ⟨_, rfl, r, C, dx, _, rfl, upd_same, RC.cl, RC.nP, by show (1 : Nat) < 1000; decide, ?_⟩
    refine ⟨_, rfl, r, C, dx, _, rfl, upd_same, RC.cl, RC.nM, by simp only [putF, if_neg rd_names.1]; show (2 : Nat) < 1000; decide, ?_⟩
    exact q _ (Exb.put.trans (Exb.put.trans Exb.put)) upd_same
theorem sc_Reader_must : FnScope ["self", "good"] ["self", "good"] (defScope s_Reader_must) := ⟨rfl, rfl, rfl, by decide +kernel, rfl, by decide +kernel, by decide +kernel⟩
def spMust (CN : Addr) : Sp := fun vs H Q E => ∃ (r : Addr) (g : Bool), vs = [.ref r, .bl g] ∧ (g = true → ∀ H', Ex H H' → Q .non H') ∧ (g = false → ∀ H', Ex H H' → E (.ref CN) none H')
theorem ok_rdMust {f CN : Addr} {fd : FuncData} (F : Fun K "must" "Reader.must" s_Reader_must f fd) (T_NoNote : ExC K mg "NoNote" CN) : FnOk P w K mg base (L2.CX P w) 1 f fd ["self", "good"] (spMust CN) := by
  have nd := sc_Reader_must.nd
  refine F.okX sc_Reader_must (fun vs H Q E h => ?_) (fun cdv A outer s H vs Q E hr h => ?_)
  · obtain ⟨r, g, rfl, _⟩ := h
    rfl
  · obtain ⟨r, g, rfl, q1, q2⟩ := h
    refine ⟨_, 
    (pss_one (ps_if (pt_not (pt_val (pv 1))) (pss_one (ps_raise rfl (takes_of rfl rfl rfl rfl) (pmk_own PySem.F.excBase_ValueError T_NoNote.q T_NoNote.gC T_NoNote.kC (raises_own T_NoNote.sB T_NoNote.tC) rfl))) pss_nil)), ?_⟩
    try dsimp only [cxOf, Cx.nox, Cx.wish]
    refine ⟨_, rfl, g, rfl, ?_⟩
    cases g with
    | true =>
      refine iteF ?_
      exact q1 rfl _ (Ex.refl _)
    | false =>
      refine iteT ?_
      exact q2 rfl _ (Ex.refl _)
theorem sc_Reader_skip : FnScope ["self", "sign"] ["self", "sign"] (defScope s_Reader_skip) := ⟨rfl, rfl, rfl, by decide +kernel, rfl, by decide +kernel, by decide +kernel⟩
/-- a sign that must stand there -/
def spSkip (C CN : Addr) : Sp := fun vs H Q E => ∃ (r dx : Addr) (T : Str) (p m c : Nat), vs = [.ref r, .str (strOfL [c])] ∧ H r = some (.ins C dx (rdF T (p : Int) (m : Int))) ∧ T.length ≤ 1000000 ∧ (TL.tl T).length = T.length ∧
  (skipR (TL.tl T) c p = some (p + 1) → ∀ H', Exb r H H' → H' r = some (.ins C dx (rdF T ((p + 1 : Nat) : Int) (m : Int))) → Q .non H') ∧ (skipR (TL.tl T) c p = none → ∀ H', Exb r H H' → E (.ref CN) none H')
theorem skip_or (T : List Nat) (c p : Nat) : skipR T c p = some (p + 1) ∨ skipR T c p = none := by
  unfold skipR
  split
  · exact .inl rfl
  · exact .inr rfl
theorem ok_rdSkip {f C CN : Addr} {fd : FuncData} (F : Fun K "skip" "Reader.skip" s_Reader_skip f fd) (RC : RdC K mg C) (c_Reader_must : Mn P w K mg base C 1 "must" (spMust CN)) : FnOk P w K mg base (L2.CX P w) 2 f fd ["self", "sign"] (spSkip C CN) := by
  have nd := sc_Reader_skip.nd
  refine F.okX sc_Reader_skip (fun vs H Q E h => ?_) (fun cdv A outer s H vs Q E hr h => ?_)
  · obtain ⟨r, dx, T, p, m, c, rfl, _⟩ := h
    rfl
  · obtain ⟨r, dx, T, p, m, c, rfl, hR, hT, hTl, q1, q2⟩ := h
    refine ⟨_, 
    (pss_cons (ps_expr (pe_mn c_Reader_must RC.cl hr (by decide) (passes_call (takes_of rfl rfl rfl rfl) fun _ _ _ _ h => h) (pv 0) (pa_cons (pe_cmpR op_eq (pe_slice sl_str (pe_fld (pv 0) rfl) (po_some (pe_fld (pv 0) rfl)) (po_some (pe_op op_add (pe_fld (pv 0) rfl) pe_int))) (pv 1) (nomark _)) pa_nil)))
    (pss_one (ps_fld (pv 0) (pe_op op_add (pe_fld (pv 0) rfl) pe_int) rfl))), ?_⟩
    try dsimp only [cxOf, Cx.nox, Cx.wish]
    refine ⟨_, rfl, r, dx, _, rfl, hR, rd_m_must _ _ _, ?_⟩
    refine ⟨_, rfl, r, C, dx, _, _, rfl, hR, RC.cl, RC.nT, rd_text _ _ _, ?_⟩
    refine ⟨_, rfl, r, C, dx, _, _, rfl, hR, RC.cl, RC.nP, rd_place _ _ _, ?_⟩
    refine ⟨_, rfl, ?_⟩
    refine ⟨_, rfl, r, C, dx, _, _, rfl, hR, RC.cl, RC.nP, rd_place _ _ _, ?_⟩
    refine ⟨_, _, rfl, rfl, ?_⟩
    refine ⟨_, rfl, ?_⟩
    refine ⟨T, rfl, Nat.le_trans hT (by decide), ?_⟩
    rw [cut_one]
    refine ⟨_, rfl, rfl, ?_⟩
    rw [eq_strOf]
    refine ⟨r, _, rfl, fun hg H1 e1 => ?_, fun hg H1 e1 => ?_⟩
    · have hs : skipR (TL.tl T) c p = some (p + 1) := if_pos (of_decide_eq_true hg)
      have hR1 := e1 _ _ hR
      refine ⟨_, rfl, r, C, dx, _, _, rfl, hR1, RC.cl, RC.nP, rd_place _ _ _, ?_⟩
      refine ⟨_, _, rfl, rfl, ?_⟩
      refine ⟨_, rfl, sto_place hR1 RC fun H2 e2 hR2 => ?_⟩
      exact q1 hs _ ((Exb.of e1).trans e2) hR2
    · have hs : skipR (TL.tl T) c p = none := if_neg (of_decide_eq_false hg)
      exact q2 hs _ (Exb.of e1)
theorem sc_Reader_run : FnScope ["self", "some", "begin"] ["self", "some"] (defScope s_Reader_run) := ⟨rfl, rfl, rfl, by decide +kernel, rfl, by decide +kernel, by decide +kernel⟩
/-- all signs of a sort -/
def spRun (C : Addr) : Sp := fun vs H Q _ => ∃ (r dx : Addr) (T ss : Str) (p m : Nat) (ok : Nat → Bool), vs = [.ref r, .str ss] ∧ H r = some (.ins C dx (rdF T (p : Int) (m : Int))) ∧ (TL.tl T).length ≤ 1000000 ∧ p ≤ (TL.tl T).length ∧ (∀ c, decide (c ∈ TL.tl ss) = ok c) ∧
  ∀ H', Exb r H H' → H' r = some (.ins C dx (rdF T ((p + (wordR (TL.tl T) ok p).length : Nat) : Int) (m : Int))) → Q (.str (strOfL (wordR (TL.tl T) ok p))) H'
theorem ok_rdRun {f C : Addr} {fd : FuncData} (F : Fun K "run" "Reader.run" s_Reader_run f fd) (B : Blt mg) (RC : RdC K mg C) : FnOk P w K mg base CX0 1 f fd ["self", "some"] (spRun C) := by
  have nd := sc_Reader_run.nd
  refine F.ok sc_Reader_run (fun vs H Q E h => ?_) (fun cdv A outer s H vs Q E hr h => ?_)
  · obtain ⟨r, dx, T, ss, p, m, ok, rfl, _⟩ := h
    rfl
  · obtain ⟨r, dx, T, ss, p, m, ok, rfl, hR, hT, hp, hok, q⟩ := h
    have hTl : T.length = (TL.tl T).length := TL.len_tl T
    have hw := word_len (ok := ok) hp
    refine ⟨_, 
    (pss_cons (ps_set (i := 2) nd rfl (Or.inl rfl) (pe_fld (pv 0) rfl))
    (pss_cons (ps_while PassesOwn.never (PW.pt (pw_and (pt_cmpR op_lt (pe_fld (pv 0) rfl) (pe_callB call_len_str (by rfl) B.len PySem.boot_len (pa_cons (pe_fld (pv 0) rfl) pa_nil)) (nomark _)) (pw_and1 (pt_cmpR op_in_sign (pe_ix ix_str (pe_fld (pv 0) rfl) (pe_fld (pv 0) rfl) (fun _ _ => rfl)) (pv 1) (by rfl))))) (pss_one (ps_fld (pv 0) (pe_op op_add (pe_fld (pv 0) rfl) pe_int) rfl)))
    (pss_one (ps_ret (pe_slice sl_str (pe_fld (pv 0) rfl) (po_some (pv 2)) (po_some (pe_fld (pv 0) rfl))))))), ?_⟩
    try dsimp only [cxOf, Cx.nox, Cx.wish]
    refine ⟨_, rfl, r, C, dx, _, _, rfl, hR, RC.cl, RC.nP, rd_place _ _ _, ?_⟩
    refine ⟨fun n σ H' => ∃ i : Nat, i ≤ (wordR (TL.tl T) ok p).length ∧ n = (wordR (TL.tl T) ok p).length - i ∧ σ = [some (.ref r), some (.str ss), some (.int (p : Int))] ∧ Exb r H H' ∧ H' r = some (.ins C dx (rdF T ((p + i : Nat) : Int) (m : Int))), ⟨_, 0, Nat.zero_le _, rfl, rfl, Exb.refl _ _, hR⟩, ?_⟩
    rintro n σ H1 ⟨i, hi, rfl, rfl, e1, hR1⟩
    have wa := word_at (T := TL.tl T) (ok := ok) (p := p) (i := i)
    refine ⟨_, rfl, r, C, dx, _, _, rfl, hR1, RC.cl, RC.nP, rd_place _ _ _, ?_⟩
    refine ⟨_, rfl, r, C, dx, _, _, rfl, hR1, RC.cl, RC.nT, rd_text _ _ _, ?_⟩
    refine ⟨_, rfl, Nat.le_trans (show T.length ≤ 1000000 by omega) (by decide), ?_⟩
    refine ⟨_, _, rfl, rfl, _, rfl, ?_⟩
    have hend : i = (wordR (TL.tl T) ok p).length → (tRet (tSl rSlS (tFld K (tVar 0) (Str.ofString "text")) (tPart (tVar 2)) (tPart (tFld K (tVar 0) (Str.ofString "place")))) { nx := fun _ H' => Q V.non H', rt := Q }) [some (.ref r), some (.str ss), some (.int (p : Int))] H1 := fun hi2 => by
      refine ⟨_, rfl, r, C, dx, _, _, rfl, hR1, RC.cl, RC.nT, rd_text _ _ _, ?_⟩
      refine ⟨_, rfl, _, rfl, ?_⟩
      refine ⟨_, rfl, r, C, dx, _, _, rfl, hR1, RC.cl, RC.nP, rd_place _ _ _, _, rfl, ?_⟩
      refine ⟨T, rfl, Nat.le_trans (show T.length ≤ 1000000 by omega) (by decide), ?_⟩
      rw [hi2, word_cut hp]
      rw [hi2] at hR1
      exact q _ e1 hR1
    refine ite2 (fun c1 => ?_) (fun c1 => ?_)
    · have c1 : ((p + i : Nat) : Int) < (T.length : Int) := of_decide_eq_true c1
      have hlt : p + i < (TL.tl T).length := by omega
      refine ⟨_, rfl, r, C, dx, _, _, rfl, hR1, RC.cl, RC.nT, rd_text _ _ _, ?_⟩
      refine ⟨_, rfl, r, C, dx, _, _, rfl, hR1, RC.cl, RC.nP, rd_place _ _ _, ?_⟩
      have hg : (TL.tl T)[p + i]? = some (TL.tl T)[p + i] := List.getElem?_eq_getElem hlt
      generalize (TL.tl T)[p + i] = x at hg
      refine ⟨T, _, x, rfl, rfl, Nat.le_trans (show T.length ≤ 1000000 by omega) (by decide), atI_nat hg, ?_⟩
      refine ⟨_, rfl, x, ss, rfl, rfl, ?_⟩
      refine ⟨_, rfl, ?_⟩
      rw [hok x]
      cases hx : ok x with
      | true =>
        refine iteT ?_
        have hi3 : i < (wordR (TL.tl T) ok p).length := by
          rcases Nat.lt_or_eq_of_le hi with h | h
          · exact h
          · rcases wa.2 h with z | ⟨y, z, z2⟩
            · omega
            · rw [hg] at z
              cases z
              rw [hx] at z2
              cases z2
        refine ⟨fun σ' H' => σ' = [some (.ref r), some (.str ss), some (.int (p : Int))] ∧ Exb r H H' ∧ H' r = some (.ins C dx (rdF T ((p + (i + 1) : Nat) : Int) (m : Int))), ?_, ?_⟩
        · rintro σ' H' ⟨rfl, e', hR'⟩
          exact ⟨(wordR (TL.tl T) ok p).length - (i + 1), by omega, i + 1, hi3, rfl, rfl, e', hR'⟩
        · refine ⟨_, rfl, r, C, dx, _, _, rfl, hR1, RC.cl, RC.nP, rd_place _ _ _, ?_⟩
          refine ⟨_, _, rfl, rfl, ?_⟩
          refine ⟨_, rfl, sto_place hR1 RC fun H2 e2 hR2 => ?_⟩
          exact ⟨rfl, e1.trans e2, by rw [hR2]; rfl⟩
      | false =>
        refine iteF ?_
        refine hend ?_
        rcases Nat.lt_or_eq_of_le hi with h | h
        · obtain ⟨y, z, z2⟩ := wa.1 h
          rw [hg] at z
          cases z
          rw [hx] at z2
          cases z2
        · exact h
    · have c1 : ¬ ((p + i : Nat) : Int) < (T.length : Int) := fun z => c1 (decide_eq_true z)
      refine iteF ?_
      refine hend ?_
      rcases Nat.lt_or_eq_of_le hi with h | h
      · obtain ⟨y, z, z2⟩ := wa.1 h
        have := (List.getElem?_eq_some_iff.mp z).1
        omega
      · exact h
theorem sc_Reader_number : FnScope ["self", "word"] ["self"] (defScope s_Reader_number) := ⟨rfl, rfl, rfl, by decide +kernel, rfl, by decide +kernel, by decide +kernel⟩
/-- a number -/
def spNumber (C CN : Addr) : Sp := fun vs H Q E => ∃ (r dx : Addr) (T : Str) (p m : Nat), vs = [.ref r] ∧ H r = some (.ins C dx (rdF T (p : Int) (m : Int))) ∧ (TL.tl T).length ≤ 1000000 ∧ p ≤ (TL.tl T).length ∧
  (∀ n q, numR (TL.tl T) p = some (n, q) → ∀ H', Exb r H H' → H' r = some (.ins C dx (rdF T (q : Int) (m : Int))) → Q (.int (n : Int)) H') ∧ (numR (TL.tl T) p = none → ∀ H', Exb r H H' → E (.ref CN) none H')
theorem ok_rdNumber {f C CN : Addr} {fd : FuncData} (F : Fun K "number" "Reader.number" s_Reader_number f fd) (B : Blt mg) (RC : RdC K mg C) (g_FIGURES : ∃ u, mg "FIGURES" = some u ∧ RelV (.str "0123456789") u) (g_MOST_FIGURES : ∃ u, mg "MOST_FIGURES" = some u ∧ RelV (.int 4) u)
    (c_Reader_must : Mn P w K mg base C 1 "must" (spMust CN)) (c_Reader_skip : Mn P w K mg base C 2 "skip" (spSkip C CN)) (c_Reader_run : Mn P w K mg base C 1 "run" (spRun C)) : FnOk P w K mg base (L2.CX P w) 3 f fd ["self"] (spNumber C CN) := by
  have nd := sc_Reader_number.nd
  refine F.okX sc_Reader_number (fun vs H Q E h => ?_) (fun cdv A outer s H vs Q E hr h => ?_)
  · obtain ⟨r, dx, T, p, m, rfl, _⟩ := h
    rfl
  · obtain ⟨r, dx, T, p, m, rfl, hR, hT, hp, q1, q2⟩ := h
    have hTl : T.length = (TL.tl T).length := TL.len_tl T
    refine ⟨_, 
    (pss_cons (ps_expr (pe_mn c_Reader_skip RC.cl hr (by decide) (passes_call (takes_of rfl rfl rfl rfl) fun _ _ _ _ h => h) (pv 0) (pa_cons pe_str pa_nil)))
    (pss_cons (ps_set (i := 1) nd rfl (Or.inl rfl) (pe_mn c_Reader_run RC.cl hr (by decide) (passes_call (takes_of rfl rfl rfl rfl) fun _ _ _ _ h => h) (pv 0) (pa_cons (pe_gl rfl g_FIGURES) pa_nil)))
    (pss_cons (ps_expr (pe_mn c_Reader_must RC.cl hr (by decide) (passes_call (takes_of rfl rfl rfl rfl) fun _ _ _ _ h => h) (pv 0) (pa_cons (pe_and (pe_chain op_le op_le pe_int (pe_callB call_len_str (by rfl) B.len PySem.boot_len (pa_cons (pv 1) pa_nil)) (pe_gl rfl g_MOST_FIGURES)) (pe_one (pe_or (pe_cmpR op_eq (pv 1) pe_str (nomark _)) (pe_one (pe_cmpR op_ne (pe_ix ix_str (pv 1) pe_int (fun _ _ => rfl)) pe_str (nomark _)))))) pa_nil)))
    (pss_one (ps_ret (pe_callTy call_int_str (by rfl) B.int bt_int (pa_cons (pv 1) pa_nil))))))), ?_⟩
    try dsimp only [cxOf, Cx.nox, Cx.wish]
    refine ⟨_, rfl, r, dx, _, rfl, hR, rd_m_skip _ _ _, ?_⟩
    rw [show Str.ofString " " = strOfL [32] from chs_str " "]
    refine ⟨r, dx, T, p, m, 32, rfl, hR, by omega, hTl.symm, fun hs H1 e1 hR1 => ?_, fun hs H1 e1 => q2 (by unfold numR; rw [hs]; rfl) H1 e1⟩
    have hsk := skip_le hs
    refine ⟨_, rfl, r, dx, _, rfl, hR1, rd_m_run _ _ _, ?_⟩
    refine ⟨r, dx, T, _, p + 1, m, isFig, rfl, hR1, hT, by omega, figs_in, fun H2 e2 hR2 => ?_⟩
    have hwl := word_len (ok := isFig) (T := TL.tl T) (p := p + 1) (by omega)
    have hwa : ∀ c ∈ wordR (TL.tl T) isFig (p + 1), isFig c = true := word_all
    have hnum : numR (TL.tl T) p = if goodNum (wordR (TL.tl T) isFig (p + 1)) then some (valOf (wordR (TL.tl T) isFig (p + 1)), p + 1 + (wordR (TL.tl T) isFig (p + 1)).length) else none := by
      unfold numR
      rw [hs]
      rfl
    generalize wordR (TL.tl T) isFig (p + 1) = wd at *
    have fin : ∀ g, g = goodNum wd → spMust CN [V.ref r, .bl g] H2 (fun _ H1 => (tRet (tCB (fun xs H Q => ∃ a n, xs = [V.str a] ∧ PySem.intText? a = some n ∧ a.length ≤ 640 ∧ Q (V.int n) H) (tCons (tVar 1) tNil)) { nx := fun _ H' => Q V.non H', rt := Q }) [some (V.ref r), some (V.str (strOfL wd))] H1) E := by
      rintro g rfl
      refine ⟨r, _, rfl, fun hg H3 e3 => ?_, fun hg H3 e3 => ?_⟩
      · rw [if_pos hg] at hnum
        unfold goodNum at hg
        simp only [Bool.and_eq_true, decide_eq_true_eq] at hg
        refine ⟨_, rfl, _, _, rfl, int_word hwa (fun z => by rw [z] at hg; exact absurd hg.1.1 (by decide)) (by omega), by rw [strOf_len]; omega, ?_⟩
        exact q1 _ _ hnum _ (e1.trans (e2.trans (Exb.of e3))) (e3 _ _ hR2)
      · rw [if_neg (by rw [hg]; decide)] at hnum
        exact q2 hnum _ (e1.trans (e2.trans (Exb.of e3)))
    refine ⟨_, rfl, r, dx, _, rfl, hR2, rd_m_must _ _ _, ?_⟩
    refine ⟨_, rfl, _, rfl, Nat.le_trans (show (strOfL wd).length ≤ 1000000 by rw [strOf_len]; omega) (by decide), ?_⟩
    rw [strOf_len]
    refine ⟨_, _, rfl, rfl, _, rfl, ?_⟩
    unfold goodNum at fin
    refine ite2 (fun c1 => ?_) (fun c1 => ?_)
    · have c1 : (1 : Int) ≤ (wd.length : Int) := of_decide_eq_true c1
      refine ⟨_, _, rfl, rfl, _, rfl, ?_⟩
      refine ite2 (fun c2 => ?_) (fun c2 => ?_)
      · have c2 : (wd.length : Int) ≤ 4 := of_decide_eq_true c2
        rw [decide_eq_true (show 1 ≤ wd.length by omega), decide_eq_true (show wd.length ≤ 4 by omega)] at fin
        refine ⟨_, rfl, rfl, ?_⟩
        rw [chs_str "0", eq_strOf, show chs "0" = [48] from rfl]
        refine ⟨_, rfl, ?_⟩
        by_cases h0 : wd = [48]
        · rw [decide_eq_true h0]
          refine iteT ?_
          exact fin _ (by rw [decide_eq_true h0]; rfl)
        · rw [decide_eq_false h0]
          refine iteF ?_
          cases wd with
          | nil => exact absurd c1 (by decide)
          | cons x rr =>
            refine ⟨_, rfl, strOfL (x :: rr), 0, x, rfl, rfl, Nat.le_trans (show (strOfL (x :: rr)).length ≤ 1000000 by rw [strOf_len]; omega) (by decide), atI_nat (j := 0) rfl, rfl, ?_⟩
            rw [show (V.str ⟨#[x]⟩) = V.str (strOfL [x]) from rfl, eq_strOf]
            refine fin _ ?_
            rw [decide_eq_false h0, Bool.false_or, Bool.true_and, Bool.true_and]
            by_cases hx : x = 48
            · subst hx
              rfl
            · rw [decide_eq_false (show ¬ [x] = [48] from fun z => hx (List.cons.inj z).1), decide_eq_true (show (x :: rr).headD 0 ≠ 48 from hx)]
              rfl
      · have c2 : ¬ (wd.length : Int) ≤ 4 := fun z => c2 (decide_eq_true z)
        exact fin _ (by rw [decide_eq_false (show ¬ wd.length ≤ 4 by omega), Bool.and_false, Bool.false_and])
    · have c1 : ¬ (1 : Int) ≤ (wd.length : Int) := fun z => c1 (decide_eq_true z)
      refine ⟨_, rfl, ?_⟩
      refine iteF ?_
      exact fin _ (by rw [decide_eq_false (show ¬ 1 ≤ wd.length by omega), Bool.false_and, Bool.false_and])
theorem sc_Reader_signs_there : FnScope ["self"] ["self"] (defScope s_Reader_signs_there) := ⟨rfl, rfl, rfl, by decide +kernel, rfl, by decide +kernel, by decide +kernel⟩
/-- a gate's signs -/
def spRSigns (C CN : Addr) : Sp := fun vs H Q E => ∃ (r dx : Addr) (T : Str) (p m : Nat), vs = [.ref r] ∧ H r = some (.ins C dx (rdF T (p : Int) (m : Int))) ∧ (TL.tl T).length ≤ 1000000 ∧ p ≤ (TL.tl T).length ∧
  (∀ w q, signsR (TL.tl T) p = some (w, q) → ∀ H', Exb r H H' → H' r = some (.ins C dx (rdF T (q : Int) (m : Int))) → Q (.str (strOfL w)) H') ∧ (signsR (TL.tl T) p = none → ∀ H', Exb r H H' → E (.ref CN) none H')
theorem ok_rdSigns {f C CN : Addr} {fd : FuncData} (F : Fun K "signs_there" "Reader.signs_there" s_Reader_signs_there f fd) (RC : RdC K mg C) (g_FIGURES : ∃ u, mg "FIGURES" = some u ∧ RelV (.str "0123456789") u)
    (c_Reader_skip : Mn P w K mg base C 2 "skip" (spSkip C CN)) (c_Reader_run : Mn P w K mg base C 1 "run" (spRun C)) : FnOk P w K mg base (L2.CX P w) 3 f fd ["self"] (spRSigns C CN) := by
  have nd := sc_Reader_signs_there.nd
  refine F.okX sc_Reader_signs_there (fun vs H Q E h => ?_) (fun cdv A outer s H vs Q E hr h => ?_)
  · obtain ⟨r, dx, T, p, m, rfl, _⟩ := h
    rfl
  · obtain ⟨r, dx, T, p, m, rfl, hR, hT, hp, q1, q2⟩ := h
    have hTl : T.length = (TL.tl T).length := TL.len_tl T
    refine ⟨_, 
    (pss_cons (ps_expr (pe_mn c_Reader_skip RC.cl hr (by decide) (passes_call (takes_of rfl rfl rfl rfl) fun _ _ _ _ h => h) (pv 0) (pa_cons pe_str pa_nil)))
    (pss_one (ps_ret (pe_mn c_Reader_run RC.cl hr (by decide) (passes_call (takes_of rfl rfl rfl rfl) fun _ _ _ _ h => h) (pv 0) (pa_cons (pe_gl rfl g_FIGURES) pa_nil))))), ?_⟩
    try dsimp only [cxOf, Cx.nox, Cx.wish]
    refine ⟨_, rfl, r, dx, _, rfl, hR, rd_m_skip _ _ _, ?_⟩
    rw [show Str.ofString " " = strOfL [32] from chs_str " "]
    refine ⟨r, dx, T, p, m, 32, rfl, hR, by omega, hTl.symm, fun hs H1 e1 hR1 => ?_, fun hs H1 e1 => q2 (by unfold signsR; rw [hs]; rfl) H1 e1⟩
    have hsk := skip_le hs
    refine ⟨_, rfl, r, dx, _, rfl, hR1, rd_m_run _ _ _, ?_⟩
    refine ⟨r, dx, T, _, p + 1, m, isFig, rfl, hR1, hT, by omega, figs_in, fun H2 e2 hR2 => ?_⟩
    exact q1 _ _ (by unfold signsR; rw [hs]; rfl) _ (e1.trans e2) hR2
/-- what a reader of so much fuel makes of a text -/
def spRBeat (K : PySem.W.Frag) (C CN : Addr) (n : Nat) : Sp := fun vs H Q E => ∃ (r dx : Addr) (T : Str) (p m : Nat), vs = [.ref r] ∧ H r = some (.ins C dx (rdF T (p : Int) (m : Int))) ∧ (TL.tl T).length ≤ 1000000 ∧ p ≤ (TL.tl T).length ∧ m ≤ 30 ∧ 31 ≤ m + n ∧
  (∀ d q m', beatR n (TL.tl T) p m = some (d, q, m') → ∀ v H', Exb r H H' → H' r = some (.ins C dx (rdF T (q : Int) (m' : Int))) → Dp K H' v d → Q v H') ∧ (beatR n (TL.tl T) p m = none → ∀ H', Exb r H H' → E (.ref CN) none H')
theorem sc_Reader_inner : FnScope ["self"] ["self"] (defScope s_Reader_inner) := ⟨rfl, rfl, rfl, by decide +kernel, rfl, by decide +kernel, by decide +kernel⟩
def spRInner (K : PySem.W.Frag) (C CN : Addr) (n : Nat) : Sp := fun vs H Q E => ∃ (r dx : Addr) (T : Str) (p m : Nat), vs = [.ref r] ∧ H r = some (.ins C dx (rdF T (p : Int) (m : Int))) ∧ (TL.tl T).length ≤ 1000000 ∧ p ≤ (TL.tl T).length ∧ m ≤ 30 ∧ 31 ≤ m + n ∧
  (∀ d q m', innerR (TL.tl T) (fun p m => beatR n (TL.tl T) p m) p m = some (d, q, m') → ∀ v H', Exb r H H' → H' r = some (.ins C dx (rdF T (q : Int) (m' : Int))) → Dp K H' v d → Q v H') ∧ (innerR (TL.tl T) (fun p m => beatR n (TL.tl T) p m) p m = none → ∀ H', Exb r H H' → E (.ref CN) none H')
theorem ok_rdInner {f C CN : Addr} {fd : FuncData} (F : Fun K "inner" "Reader.inner" s_Reader_inner f fd) (RC : RdC K mg C) {n k : Nat} (hk : 2 ≤ k) (c_Reader_skip : Mn P w K mg base C 2 "skip" (spSkip C CN)) (c_Reader_beat : Mn P w K mg base C k "beat" (spRBeat K C CN n)) : FnOk P w K mg base (L2.CX P w) (k + 1) f fd ["self"] (spRInner K C CN n) := by
  have nd := sc_Reader_inner.nd
  refine F.okX sc_Reader_inner (fun vs H Q E h => ?_) (fun cdv A outer s H vs Q E hr h => ?_)
  · obtain ⟨r, dx, T, p, m, rfl, _⟩ := h
    rfl
  · obtain ⟨r, dx, T, p, m, rfl, hR, hT, hp, hm, hn, q1, q2⟩ := h
    have hTl : T.length = (TL.tl T).length := TL.len_tl T
    refine ⟨_, 
    (pss_cons (ps_expr (pe_mn c_Reader_skip RC.cl hr (by omega) (passes_call (takes_of rfl rfl rfl rfl) fun _ _ _ _ h => h) (pv 0) (pa_cons pe_str pa_nil)))
    (pss_one (ps_ret (pe_mn0 c_Reader_beat RC.cl hr (by omega) (passes_call (takes_of rfl rfl rfl rfl) fun _ _ _ _ h => h) (pv 0))))), ?_⟩
    try dsimp only [cxOf, Cx.nox, Cx.wish]
    refine ⟨_, rfl, r, dx, _, rfl, hR, rd_m_skip _ _ _, ?_⟩
    rw [show Str.ofString " " = strOfL [32] from chs_str " "]
    refine ⟨r, dx, T, p, m, 32, rfl, hR, by omega, hTl.symm, fun hs H1 e1 hR1 => ?_, fun hs H1 e1 => q2 (by unfold innerR; rw [hs]; rfl) H1 e1⟩
    have hsk := skip_le hs
    refine ⟨_, rfl, r, dx, _, rfl, hR1, rd_m_beat _ _ _, ?_⟩
    refine ⟨r, dx, T, p + 1, m, rfl, hR1, hT, by omega, hm, hn, fun d q m' hb v H2 e2 hR2 hd => ?_, fun hb H2 e2 => q2 (by unfold innerR; rw [hs]; exact hb) _ (e1.trans e2)⟩
    exact q1 d q m' (by unfold innerR; rw [hs]; exact hb) v H2 (e1.trans e2) hR2 hd
theorem str_beq (w : List Nat) (x : String) : (strOfL w == Str.ofString x) = decide (w = chs x) := by
  rw [chs_str, Bool.eq_iff_iff, beq_iff_eq, decide_eq_true_eq, strOf_inj]
theorem word_two (K : PySem.W.Frag) (w : List Nat) : inV (.str (strOfL w)) [.str "either", .str "both", .str "but"] = (twoOf w).isSome := by
  rw [inV_three (K := K) (H := fun _ => none) (.str (strOfL w)), word_is, word_is, word_is, str_beq, str_beq, str_beq]
  unfold twoOf
  show _ = (if w = chs "either" then some Two.either else if w = chs "both" then some Two.both else if w = chs "but" then some Two.but else none).isSome
  by_cases h1 : w = chs "either"
  · rw [if_pos h1, decide_eq_true h1]
    rfl
  · rw [if_neg h1, decide_eq_false h1]
    by_cases h2 : w = chs "both"
    · rw [if_pos h2, decide_eq_true h2]
      rfl
    · rw [if_neg h2, decide_eq_false h2]
      by_cases h3 : w = chs "but"
      · rw [if_pos h3, decide_eq_true h3]
        rfl
      · rw [if_neg h3, decide_eq_false h3]
        rfl
theorem two_word {w : List Nat} {v : Two} (h : twoOf w = some v) : strOfL w = v.word := by
  unfold twoOf at h
  split at h
  · rename_i e
    cases h
    rw [e]
    exact (chs_str "either").symm
  split at h
  · rename_i e
    cases h
    rw [e]
    exact (chs_str "both").symm
  split at h
  · rename_i e
    cases h
    rw [e]
    exact (chs_str "but").symm
  · cases h
theorem sc_Reader_parts : FnScope ["self", "word", "count", "some", "more", "one", "other"] ["self", "word"] (defScope s_Reader_parts) := ⟨rfl, rfl, rfl, by decide +kernel, rfl, by decide +kernel, by decide +kernel⟩
/-- a beat of a word -/
def spRParts (K : PySem.W.Frag) (C CN : Addr) (n : Nat) : Sp := fun vs H Q E => ∃ (r dx : Addr) (T : Str) (w : List Nat) (p m : Nat), vs = [.ref r, .str (strOfL w)] ∧ H r = some (.ins C dx (rdF T (p : Int) (m : Int))) ∧ (TL.tl T).length ≤ 1000000 ∧ p ≤ (TL.tl T).length ∧ m ≤ 30 ∧ 31 ≤ m + n ∧
  (∀ d q m', partsR (TL.tl T) (fun p m => beatR n (TL.tl T) p m) w p m = some (d, q, m') → ∀ v H', Exb r H H' → H' r = some (.ins C dx (rdF T (q : Int) (m' : Int))) → Dp K H' v d → Q v H') ∧ (partsR (TL.tl T) (fun p m => beatR n (TL.tl T) p m) w p m = none → ∀ H', Exb r H H' → E (.ref CN) none H')
theorem ok_rdParts {f C CN : Addr} {fd : FuncData} (F : Fun K "parts" "Reader.parts" s_Reader_parts f fd) (RC : RdC K mg C) {r_OF_TWO : Addr} (g_OF_TWO : ∃ u, mg "OF_TWO" = some u ∧ RelV (.ref r_OF_TWO) u) (q_OF_TWO : ∀ H : Hp, SqT K H r_OF_TWO [.str "either", .str "both", .str "but"])
    {n k : Nat} (hk : 4 ≤ k) (c_Reader_must : Mn P w K mg base C 1 "must" (spMust CN)) (c_Reader_number : Mn P w K mg base C 3 "number" (spNumber C CN)) (c_Reader_signs_there : Mn P w K mg base C 3 "signs_there" (spRSigns C CN)) (c_Reader_inner : Mn P w K mg base C k "inner" (spRInner K C CN n)) :
    FnOk P w K mg base (L2.CX P w) (k + 1) f fd ["self", "word"] (spRParts K C CN n) := by
  have nd := sc_Reader_parts.nd
  refine F.okX sc_Reader_parts (fun vs H Q E h => ?_) (fun cdv A outer s H vs Q E hr h => ?_)
  · obtain ⟨r, dx, T, w, p, m, rfl, _⟩ := h
    rfl
  · obtain ⟨r, dx, T, w, p, m, rfl, hR, hT, hp, hm, hn, q1, q2⟩ := h
    have far : ∀ {p m d q m'}, p ≤ (TL.tl T).length → innerR (TL.tl T) (fun p m => beatR n (TL.tl T) p m) p m = some (d, q, m') → q ≤ (TL.tl T).length ∧ m < m' ∧ m' ≤ 30 := fun {p m d q m'} hp h => by
      unfold innerR at h
      obtain ⟨p1, h1, h2⟩ := Option.bind_eq_some_iff.mp h
      obtain ⟨rfl, h3⟩ := skip_le h1
      exact beat_far _ _ _ _ _ _ (by omega) h2
    refine ⟨_, 
    (pss_cons (ps_if (pt_cmpR op_eq (pv 1) pe_str (nomark _)) (pss_cons (ps_set (i := 2) nd rfl (Or.inl rfl) (pe_mn0 c_Reader_number RC.cl hr (by omega) (passes_call (takes_of rfl rfl rfl rfl) fun _ _ _ _ h => h) (pv 0)))
    (pss_one (ps_ret (pe_tupN (pa_cons (pv 1) (pa_cons (pv 2) (pa_cons (pe_mn0 c_Reader_number RC.cl hr (by omega) (passes_call (takes_of rfl rfl rfl rfl) fun _ _ _ _ h => h) (pv 0)) (pa_cons (pe_mn0 c_Reader_inner RC.cl hr (by omega) (passes_call (takes_of rfl rfl rfl rfl) fun _ _ _ _ h => h) (pv 0)) pa_nil)))))))) pss_nil)
    (pss_cons (ps_if (pt_cmpR op_eq (pv 1) pe_str (nomark _)) (pss_cons (ps_set (i := 3) nd rfl (Or.inl rfl) (pe_mn0 c_Reader_signs_there RC.cl hr (by omega) (passes_call (takes_of rfl rfl rfl rfl) fun _ _ _ _ h => h) (pv 0)))
    (pss_one (ps_ret (pe_tupN (pa_cons (pv 1) (pa_cons (pv 3) (pa_cons (pe_mn0 c_Reader_inner RC.cl hr (by omega) (passes_call (takes_of rfl rfl rfl rfl) fun _ _ _ _ h => h) (pv 0)) pa_nil))))))) pss_nil)
    (pss_cons (ps_if (pt_cmpR op_eq (pv 1) pe_str (nomark _)) (pss_cons (ps_set (i := 4) nd rfl (Or.inl rfl) (pe_mn0 c_Reader_number RC.cl hr (by omega) (passes_call (takes_of rfl rfl rfl rfl) fun _ _ _ _ h => h) (pv 0)))
    (pss_one (ps_ret (pe_tupN (pa_cons (pv 1) (pa_cons (pv 4) (pa_cons (pe_mn0 c_Reader_inner RC.cl hr (by omega) (passes_call (takes_of rfl rfl rfl rfl) fun _ _ _ _ h => h) (pv 0)) pa_nil))))))) pss_nil)
    (pss_cons (ps_if (pt_cmpR op_eq (pv 1) pe_str (nomark _)) (pss_cons (ps_set (i := 5) nd rfl (Or.inl rfl) (pe_mn0 c_Reader_inner RC.cl hr (by omega) (passes_call (takes_of rfl rfl rfl rfl) fun _ _ _ _ h => h) (pv 0)))
    (pss_cons (ps_set (i := 2) nd rfl (Or.inl rfl) (pe_mn0 c_Reader_number RC.cl hr (by omega) (passes_call (takes_of rfl rfl rfl rfl) fun _ _ _ _ h => h) (pv 0)))
    (pss_cons (ps_set (i := 6) nd rfl (Or.inl rfl) (pe_mn0 c_Reader_inner RC.cl hr (by omega) (passes_call (takes_of rfl rfl rfl rfl) fun _ _ _ _ h => h) (pv 0)))
    (pss_one (ps_ret (pe_tupN (pa_cons (pv 1) (pa_cons (pv 5) (pa_cons (pv 2) (pa_cons (pv 6) (pa_cons (pe_mn0 c_Reader_number RC.cl hr (by omega) (passes_call (takes_of rfl rfl rfl rfl) fun _ _ _ _ h => h) (pv 0)) pa_nil))))))))))) pss_nil)
    (pss_cons (ps_expr (pe_mn c_Reader_must RC.cl hr (by omega) (passes_call (takes_of rfl rfl rfl rfl) fun _ _ _ _ h => h) (pv 0) (pa_cons (pe_cmpR (inK (K := K) rfl) (pv 1) (pe_gl rfl g_OF_TWO) (by rfl)) pa_nil)))
    (pss_cons (ps_set (i := 5) nd rfl (Or.inl rfl) (pe_mn0 c_Reader_inner RC.cl hr (by omega) (passes_call (takes_of rfl rfl rfl rfl) fun _ _ _ _ h => h) (pv 0)))
    (pss_one (ps_ret (pe_tupN (pa_cons (pv 1) (pa_cons (pv 5) (pa_cons (pe_mn0 c_Reader_inner RC.cl hr (by omega) (passes_call (takes_of rfl rfl rfl rfl) fun _ _ _ _ h => h) (pv 0)) pa_nil)))))))))))), ?_⟩
    try dsimp only [cxOf, Cx.nox, Cx.wish]
    walk_at "norm"
    unfold partsR at q1 q2
    refine ⟨_, rfl, rfl, ?_⟩
    rw [chs_str "every", eq_strOf]
    refine ⟨_, rfl, ?_⟩
    by_cases w1 : w = chs "every"
    · rw [decide_eq_true w1]
      rw [if_pos w1] at q1 q2
      refine iteT ?_
      refine ⟨_, rfl, r, dx, _, rfl, hR, rd_m_number _ _ _, ?_⟩
      refine ⟨r, dx, T, p, m, rfl, hR, hT, hp, fun x x2 hx H1 e1 hR1 => ?_, fun hx H1 e1 => q2 (by rw [hx]; rfl) _ e1⟩
      rw [hx] at q1 q2
      have hx1 := (num_le hx).1
      refine ⟨_, rfl, _, rfl, _, rfl, r, dx, _, rfl, hR1, rd_m_number _ _ _, ?_⟩
      refine ⟨r, dx, T, x2, m, rfl, hR1, hT, hx1, fun y y2 hy H2 e2 hR2 => ?_, fun hy H2 e2 => q2 (by show ((numR (TL.tl T) x2).bind _) = none; rw [hy]; rfl) _ (e1.trans e2)⟩
      have hy1 := (num_le hy).1
      refine ⟨_, rfl, r, dx, _, rfl, hR2, rd_m_inner _ _ _, ?_⟩
      refine ⟨r, dx, T, y2, m, rfl, hR2, hT, hy1, hm, hn, fun d q m' hi v H3 e3 hR3 hd => ?_, fun hi H3 e3 => q2 (by show ((numR (TL.tl T) x2).bind _) = none; rw [hy]; show (innerR (TL.tl T) _ y2 m).map _ = none; rw [hi]; rfl) _ (e1.trans (e2.trans e3))⟩
      refine ⟨Nat.le_trans (show 4 ≤ 100000 by decide) (by decide), nT_intro fun t H4 nt e4 ht => ?_⟩
      refine q1 _ _ _ (by show ((numR (TL.tl T) x2).bind _) = _; rw [hy]; show (innerR (TL.tl T) _ y2 m).map _ = _; rw [hi]; rfl) _ _ (e1.trans (e2.trans (e3.trans (Exb.of e4)))) (e4 _ _ hR3) ?_
      refine .tup (.of ht) (.cons ?_ (.cons (.int _) (.cons (.int _) (.cons (e4.dp hd) .nil))))
      rw [w1, ← chs_str]
      exact .str _
    rw [decide_eq_false w1]
    rw [if_neg w1] at q1 q2
    refine iteF ?_
    refine ⟨_, rfl, rfl, ?_⟩
    rw [chs_str "gate", eq_strOf]
    refine ⟨_, rfl, ?_⟩
    by_cases w2 : w = chs "gate"
    · rw [decide_eq_true w2]
      rw [if_pos w2] at q1 q2
      refine iteT ?_
      refine ⟨_, rfl, r, dx, _, rfl, hR, rd_m_signs_there _ _ _, ?_⟩
      refine ⟨r, dx, T, p, m, rfl, hR, hT, hp, fun x x2 hx H1 e1 hR1 => ?_, fun hx H1 e1 => q2 (by rw [hx]; rfl) _ e1⟩
      rw [hx] at q1 q2
      have hx1 : x2 ≤ (TL.tl T).length := by
        unfold signsR at hx
        obtain ⟨p1, g1, g2⟩ := Option.map_eq_some_iff.mp hx
        obtain ⟨rfl, g3⟩ := skip_le g1
        cases g2
        exact word_len (by omega)
      refine ⟨_, rfl, _, rfl, _, rfl, r, dx, _, rfl, hR1, rd_m_inner _ _ _, ?_⟩
      refine ⟨r, dx, T, x2, m, rfl, hR1, hT, hx1, hm, hn, fun d q m' hi v H3 e3 hR3 hd => ?_, fun hi H3 e3 => q2 (by show (innerR (TL.tl T) _ x2 m).map _ = none; rw [hi]; rfl) _ (e1.trans e3)⟩
      refine ⟨Nat.le_trans (show 3 ≤ 100000 by decide) (by decide), nT_intro fun t H4 nt e4 ht => ?_⟩
      refine q1 _ _ _ (by show (innerR (TL.tl T) _ x2 m).map _ = _; rw [hi]; rfl) _ _ (e1.trans (e3.trans (Exb.of e4))) (e4 _ _ hR3) ?_
      refine .tup (.of ht) (.cons ?_ (.cons (.str _) (.cons (e4.dp hd) .nil)))
      rw [w2, ← chs_str]
      exact .str _
    rw [decide_eq_false w2]
    rw [if_neg w2] at q1 q2
    refine iteF ?_
    refine ⟨_, rfl, rfl, ?_⟩
    rw [chs_str "later", eq_strOf]
    refine ⟨_, rfl, ?_⟩
    by_cases w3 : w = chs "later"
    · rw [decide_eq_true w3]
      rw [if_pos w3] at q1 q2
      refine iteT ?_
      refine ⟨_, rfl, r, dx, _, rfl, hR, rd_m_number _ _ _, ?_⟩
      refine ⟨r, dx, T, p, m, rfl, hR, hT, hp, fun x x2 hx H1 e1 hR1 => ?_, fun hx H1 e1 => q2 (by rw [hx]; rfl) _ e1⟩
      rw [hx] at q1 q2
      have hx1 := (num_le hx).1
      refine ⟨_, rfl, _, rfl, _, rfl, r, dx, _, rfl, hR1, rd_m_inner _ _ _, ?_⟩
      refine ⟨r, dx, T, x2, m, rfl, hR1, hT, hx1, hm, hn, fun d q m' hi v H3 e3 hR3 hd => ?_, fun hi H3 e3 => q2 (by show (innerR (TL.tl T) _ x2 m).map _ = none; rw [hi]; rfl) _ (e1.trans e3)⟩
      refine ⟨Nat.le_trans (show 3 ≤ 100000 by decide) (by decide), nT_intro fun t H4 nt e4 ht => ?_⟩
      refine q1 _ _ _ (by show (innerR (TL.tl T) _ x2 m).map _ = _; rw [hi]; rfl) _ _ (e1.trans (e3.trans (Exb.of e4))) (e4 _ _ hR3) ?_
      refine .tup (.of ht) (.cons ?_ (.cons (.int _) (.cons (e4.dp hd) .nil)))
      rw [w3, ← chs_str]
      exact .str _
    rw [decide_eq_false w3]
    rw [if_neg w3] at q1 q2
    refine iteF ?_
    refine ⟨_, rfl, rfl, ?_⟩
    rw [chs_str "led", eq_strOf]
    refine ⟨_, rfl, ?_⟩
    by_cases w4 : w = chs "led"
    · rw [decide_eq_true w4]
      rw [if_pos w4] at q1 q2
      refine iteT ?_
      refine ⟨_, rfl, r, dx, _, rfl, hR, rd_m_inner _ _ _, ?_⟩
      refine ⟨r, dx, T, p, m, rfl, hR, hT, hp, hm, hn, fun x x2 x3 hx v1 H1 e1 hR1 hd1 => ?_, fun hx H1 e1 => q2 (by rw [hx]; rfl) _ e1⟩
      rw [hx] at q1 q2
      obtain ⟨f1, f2, f3⟩ := far hp hx
      refine ⟨_, rfl, r, dx, _, rfl, hR1, rd_m_number _ _ _, ?_⟩
      refine ⟨r, dx, T, x2, x3, rfl, hR1, hT, f1, fun y y2 hy H2 e2 hR2 => ?_, fun hy H2 e2 => q2 (by show ((numR (TL.tl T) x2).bind _) = none; rw [hy]; rfl) _ (e1.trans e2)⟩
      have hy1 := (num_le hy).1
      refine ⟨_, rfl, r, dx, _, rfl, hR2, rd_m_inner _ _ _, ?_⟩
      refine ⟨r, dx, T, y2, x3, rfl, hR2, hT, hy1, f3, by omega, fun z z2 z3 hz v2 H3 e3 hR3 hd2 => ?_, fun hz H3 e3 => q2 (by show ((numR (TL.tl T) x2).bind _) = none; rw [hy]; show (innerR (TL.tl T) _ y2 x3).bind _ = none; rw [hz]; rfl) _ (e1.trans (e2.trans e3))⟩
      obtain ⟨f4, f5, f6⟩ := far hy1 hz
      refine ⟨_, rfl, _, rfl, _, rfl, _, rfl, _, rfl, r, dx, _, rfl, hR3, rd_m_number _ _ _, ?_⟩
      refine ⟨r, dx, T, z2, z3, rfl, hR3, hT, f4, fun u u2 hu H4 e4 hR4 => ?_, fun hu H4 e4 => q2 (by show ((numR (TL.tl T) x2).bind _) = none; rw [hy]; show (innerR (TL.tl T) _ y2 x3).bind _ = none; rw [hz]; show (numR (TL.tl T) z2).map _ = none; rw [hu]; rfl) _ (e1.trans (e2.trans (e3.trans e4)))⟩
      refine ⟨Nat.le_trans (show 5 ≤ 100000 by decide) (by decide), nT_intro fun t H5 nt e5 ht => ?_⟩
      refine q1 _ _ _ (by show ((numR (TL.tl T) x2).bind _) = _; rw [hy]; show (innerR (TL.tl T) _ y2 x3).bind _ = _; rw [hz]; show (numR (TL.tl T) z2).map _ = _; rw [hu]; rfl) _ _ (e1.trans (e2.trans (e3.trans (e4.trans (Exb.of e5))))) (e5 _ _ hR4) ?_
      refine .tup (.of ht) (.cons ?_ (.cons (e5.dp (dp_exb hR3 e4 (dp_exb hR2 e3 (dp_exb hR1 e2 hd1)))) (.cons (.int _) (.cons (e5.dp (dp_exb hR3 e4 hd2)) (.cons (.int _) .nil)))))
      rw [w4, ← chs_str]
      exact .str _
    rw [decide_eq_false w4]
    rw [if_neg w4] at q1 q2
    refine iteF ?_
    refine ⟨_, rfl, r, dx, _, rfl, hR, rd_m_must _ _ _, ?_⟩
    refine ⟨_, rfl, r_OF_TWO, _, rfl, .inr (q_OF_TWO _), rfl, rfl, ?_⟩
    rw [show (if false = true then !inV (V.str (strOfL w)) [V.str "either", V.str "both", V.str "but"] else inV (V.str (strOfL w)) [V.str "either", V.str "both", V.str "but"]) = (twoOf w).isSome from word_two K w]
    refine ⟨r, _, rfl, fun hg H0 e0 => ?_, fun hg H0 e0 => ?_⟩
    · obtain ⟨v, hv⟩ := Option.isSome_iff_exists.mp hg
      rw [hv] at q1 q2
      have hR0 := e0 _ _ hR
      refine ⟨_, rfl, r, dx, _, rfl, hR0, rd_m_inner _ _ _, ?_⟩
      refine ⟨r, dx, T, p, m, rfl, hR0, hT, hp, hm, hn, fun x x2 x3 hx v1 H1 e1 hR1 hd1 => ?_, fun hx H1 e1 => q2 (by show (innerR (TL.tl T) _ p m).bind _ = none; rw [hx]; rfl) _ ((Exb.of e0).trans e1)⟩
      obtain ⟨f1, f2, f3⟩ := far hp hx
      refine ⟨_, rfl, _, rfl, _, rfl, r, dx, _, rfl, hR1, rd_m_inner _ _ _, ?_⟩
      refine ⟨r, dx, T, x2, x3, rfl, hR1, hT, f1, f3, by omega, fun z z2 z3 hz v2 H3 e3 hR3 hd2 => ?_, fun hz H3 e3 => q2 (by show (innerR (TL.tl T) _ p m).bind _ = none; rw [hx]; show (innerR (TL.tl T) _ x2 x3).map _ = none; rw [hz]; rfl) _ ((Exb.of e0).trans (e1.trans e3))⟩
      refine ⟨Nat.le_trans (show 3 ≤ 100000 by decide) (by decide), nT_intro fun t H4 nt e4 ht => ?_⟩
      refine q1 _ _ _ (by show (innerR (TL.tl T) _ p m).bind _ = _; rw [hx]; show (innerR (TL.tl T) _ x2 x3).map _ = _; rw [hz]; rfl) _ _ ((Exb.of e0).trans (e1.trans (e3.trans (Exb.of e4)))) (e4 _ _ hR3) ?_
      refine .tup (.of ht) (.cons ?_ (.cons (e4.dp (dp_exb hR1 e3 hd1)) (.cons (e4.dp hd2) .nil)))
      rw [two_word hv]
      exact .str _
    · have hv : twoOf w = none := by
        cases h : twoOf w with
        | none => rfl
        | some v => rw [h] at hg; cases hg
      exact q2 (by rw [hv]; rfl) _ (Exb.of e0)
theorem sc_Reader_beat : FnScope ["self", "found"] ["self"] (defScope s_Reader_beat) := ⟨rfl, rfl, rfl, by decide +kernel, rfl, by decide +kernel, by decide +kernel⟩
theorem ok_rdBeat {f C CN : Addr} {fd : FuncData} (F : Fun K "beat" "Reader.beat" s_Reader_beat f fd) (RC : RdC K mg C) (g_MOST_TUPLES : ∃ u, mg "MOST_TUPLES" = some u ∧ RelV (.int 30) u) (g_LETTERS : ∃ u, mg "LETTERS" = some u ∧ RelV (.str "abcdefghijklmnopqrstuvwxyz") u)
    {n k : Nat} (hk : 4 ≤ k) (c_Reader_must : Mn P w K mg base C 1 "must" (spMust CN)) (c_Reader_skip : Mn P w K mg base C 2 "skip" (spSkip C CN)) (c_Reader_run : Mn P w K mg base C 1 "run" (spRun C)) (c_Reader_parts : Mn P w K mg base C k "parts" (spRParts K C CN n)) :
    FnOk P w K mg base (L2.CX P w) (k + 1) f fd ["self"] (spRBeat K C CN (n + 1)) := by
  have nd := sc_Reader_beat.nd
  refine F.okX sc_Reader_beat (fun vs H Q E h => ?_) (fun cdv A outer s H vs Q E hr h => ?_)
  · obtain ⟨r, dx, T, p, m, rfl, _⟩ := h
    rfl
  · obtain ⟨r, dx, T, p, m, rfl, hR, hT, hp, hm, hn, q1, q2⟩ := h
    have hTl : T.length = (TL.tl T).length := TL.len_tl T
    refine ⟨_, 
    (pss_cons (ps_fld (pv 0) (pe_op op_add (pe_fld (pv 0) rfl) pe_int) rfl)
    (pss_cons (ps_expr (pe_mn c_Reader_must RC.cl hr (by omega) (passes_call (takes_of rfl rfl rfl rfl) fun _ _ _ _ h => h) (pv 0) (pa_cons (pe_cmpR op_le (pe_fld (pv 0) rfl) (pe_gl rfl g_MOST_TUPLES) (nomark _)) pa_nil)))
    (pss_cons (ps_if (pt_cmpR op_ne (pe_slice sl_str (pe_fld (pv 0) rfl) (po_some (pe_fld (pv 0) rfl)) (po_some (pe_op op_add (pe_fld (pv 0) rfl) pe_int))) pe_str (nomark _)) (pss_cons (ps_expr (pe_mn c_Reader_must RC.cl hr (by omega) (passes_call (takes_of rfl rfl rfl rfl) fun _ _ _ _ h => h) (pv 0) (pa_cons (pe_cmpR op_eq (pe_mn c_Reader_run RC.cl hr (by omega) (passes_call (takes_of rfl rfl rfl rfl) fun _ _ _ _ h => h) (pv 0) (pa_cons (pe_gl rfl g_LETTERS) pa_nil)) pe_str (nomark _)) pa_nil)))
    (pss_one (ps_ret (pe_tupN (pa_cons pe_str pa_nil))))) pss_nil)
    (pss_cons (ps_expr (pe_mn c_Reader_skip RC.cl hr (by omega) (passes_call (takes_of rfl rfl rfl rfl) fun _ _ _ _ h => h) (pv 0) (pa_cons pe_str pa_nil)))
    (pss_cons (ps_set (i := 1) nd rfl (Or.inl rfl) (pe_mn c_Reader_parts RC.cl hr (by omega) (passes_call (takes_of rfl rfl rfl rfl) fun _ _ _ _ h => h) (pv 0) (pa_cons (pe_mn c_Reader_run RC.cl hr (by omega) (passes_call (takes_of rfl rfl rfl rfl) fun _ _ _ _ h => h) (pv 0) (pa_cons (pe_gl rfl g_LETTERS) pa_nil)) pa_nil)))
    (pss_cons (ps_expr (pe_mn c_Reader_skip RC.cl hr (by omega) (passes_call (takes_of rfl rfl rfl rfl) fun _ _ _ _ h => h) (pv 0) (pa_cons pe_str pa_nil)))
    (pss_one (ps_ret (pv 1))))))))), ?_⟩
    try dsimp only [cxOf, Cx.nox, Cx.wish]
    walk_at "norm"
    unfold beatR at q1 q2
    refine ⟨_, rfl, r, C, dx, _, _, rfl, hR, RC.cl, RC.nM, rd_many _ _ _, ?_⟩
    refine ⟨_, _, rfl, rfl, ?_⟩
    refine ⟨_, rfl, sto_many hR RC fun H1 e1 hR1 => ?_⟩
    refine ⟨_, rfl, r, dx, _, rfl, hR1, rd_m_must _ _ _, ?_⟩
    refine ⟨_, rfl, r, C, dx, _, _, rfl, hR1, RC.cl, RC.nM, rd_many _ _ _, ?_⟩
    refine ⟨_, _, rfl, rfl, ?_⟩
    refine ⟨r, _, rfl, fun hg H2 e2 => ?_, fun hg H2 e2 => ?_⟩
    · have hg : (m : Int) + 1 ≤ 30 := of_decide_eq_true hg
      rw [if_neg (show ¬ 30 < m + 1 by omega)] at q1 q2
      have hR2 : H2 r = some (.ins C dx (rdF T (p : Int) ((m + 1 : Nat) : Int))) := e2 _ _ hR1
      have e02 : Exb r H H2 := e1.trans (Exb.of e2)
      refine ⟨_, rfl, r, C, dx, _, _, rfl, hR2, RC.cl, RC.nT, rd_text _ _ _, ?_⟩
      refine ⟨_, rfl, r, C, dx, _, _, rfl, hR2, RC.cl, RC.nP, rd_place _ _ _, _, rfl, ?_⟩
      refine ⟨_, rfl, r, C, dx, _, _, rfl, hR2, RC.cl, RC.nP, rd_place _ _ _, ?_⟩
      refine ⟨_, _, rfl, rfl, _, rfl, ?_⟩
      refine ⟨T, rfl, Nat.le_trans (show T.length ≤ 1000000 by omega) (by decide), ?_⟩
      rw [cut_one]
      refine ⟨rfl, ?_⟩
      rw [chs_str "(", eq_strOf, show chs "(" = [40] from rfl]
      refine ⟨_, rfl, ?_⟩
      by_cases ho : ((TL.tl T).drop p).take 1 = [40]
      · rw [decide_eq_true ho]
        rw [if_pos ho] at q1 q2
        refine iteF ?_
        refine ⟨_, rfl, r, dx, _, rfl, hR2, rd_m_skip _ _ _, ?_⟩
        have hs : skipR (TL.tl T) 40 p = some (p + 1) := if_pos ho
        have hs1 := skip_le hs
        refine ⟨r, dx, T, p, m + 1, 40, rfl, hR2, by omega, hTl.symm, fun _ H3 e3 hR3 => ?_, fun z H3 e3 => by rw [hs] at z; cases z⟩
        refine ⟨_, rfl, r, dx, _, rfl, hR3, rd_m_parts _ _ _, ?_⟩
        refine ⟨_, rfl, r, dx, _, rfl, hR3, rd_m_run _ _ _, ?_⟩
        refine ⟨r, dx, T, _, p + 1, m + 1, isLet, rfl, hR3, hT, by omega, lets_in, fun H4 e4 hR4 => ?_⟩
        have hwl := word_len (ok := isLet) (T := TL.tl T) (p := p + 1) (by omega)
        generalize wordR (TL.tl T) isLet (p + 1) = wd at *
        refine ⟨r, dx, T, wd, p + 1 + wd.length, m + 1, rfl, hR4, hT, hwl, by omega, by omega, fun d q m' hb v H5 e5 hR5 hd => ?_, fun hb H5 e5 => q2 (by rw [hb]; rfl) _ (e02.trans (e3.trans (e4.trans e5)))⟩
        rw [hb] at q1 q2
        refine ⟨_, rfl, r, dx, _, rfl, hR5, rd_m_skip _ _ _, ?_⟩
        rw [show Str.ofString ")" = strOfL [41] from chs_str ")"]
        refine ⟨r, dx, T, q, m', 41, rfl, hR5, by omega, hTl.symm, fun hz H6 e6 hR6 => ?_, fun hz H6 e6 => q2 (by show (skipR (TL.tl T) 41 q).map _ = none; rw [hz]; rfl) _ (e02.trans (e3.trans (e4.trans (e5.trans e6))))⟩
        refine ⟨_, rfl, ?_⟩
        exact q1 _ _ _ (by show (skipR (TL.tl T) 41 q).map _ = _; rw [hz]; rfl) _ _ (e02.trans (e3.trans (e4.trans (e5.trans e6)))) hR6 (dp_exb hR5 e6 hd)
      · rw [decide_eq_false ho]
        rw [if_neg ho] at q1 q2
        refine iteT ?_
        refine ⟨_, rfl, r, dx, _, rfl, hR2, rd_m_must _ _ _, ?_⟩
        refine ⟨_, rfl, r, dx, _, rfl, hR2, rd_m_run _ _ _, ?_⟩
        refine ⟨r, dx, T, _, p, m + 1, isLet, rfl, hR2, hT, hp, lets_in, fun H4 e4 hR4 => ?_⟩
        generalize hwd : wordR (TL.tl T) isLet p = wd at *
        refine ⟨rfl, ?_⟩
        rw [chs_str "source", eq_strOf]
        refine ⟨r, _, rfl, fun hg2 H5 e5 => ?_, fun hg2 H5 e5 => ?_⟩
        · have hg2 : wd = chs "source" := of_decide_eq_true hg2
          rw [if_pos hg2] at q1 q2
          have hR5 := e5 _ _ hR4
          refine ⟨Nat.le_trans (show 1 ≤ 100000 by decide) (by decide), nT_intro fun t H6 nt e6 ht => ?_⟩
          refine q1 _ _ _ rfl _ _ (e02.trans (e4.trans ((Exb.of e5).trans (Exb.of e6)))) ?_ (.tup (.of ht) (.cons (by rw [← chs_str]; exact .str _) .nil))
          rw [e6 _ _ hR5, hg2, show (chs "source").length = 6 from by decide +kernel]
        · rw [if_neg (of_decide_eq_false hg2)] at q2
          exact q2 rfl _ (e02.trans (e4.trans (Exb.of e5)))
    · have hg : ¬ (m : Int) + 1 ≤ 30 := of_decide_eq_false hg
      rw [if_pos (show 30 < m + 1 by omega)] at q2
      exact q2 rfl _ (e1.trans (Exb.of e2))
/-- the whole reader, its methods around one another -/
theorem ok_rdBeats {C CN fb fi fp : Addr} {fdb fdi fdp : FuncData} (Fb : Fun K "beat" "Reader.beat" s_Reader_beat fb fdb) (Fi : Fun K "inner" "Reader.inner" s_Reader_inner fi fdi) (Fp : Fun K "parts" "Reader.parts" s_Reader_parts fp fdp)
    (Mb : Meth K C "beat" fb) (Mi : Meth K C "inner" fi) (Mp : Meth K C "parts" fp) (bb : Binds K fdb ["self"] []) (bi : Binds K fdi ["self"] []) (bp : Binds K fdp ["self", "word"] []) (RC : RdC K mg C)
    {r_OF_TWO : Addr} (g_OF_TWO : ∃ u, mg "OF_TWO" = some u ∧ RelV (.ref r_OF_TWO) u) (q_OF_TWO : ∀ H : Hp, SqT K H r_OF_TWO [.str "either", .str "both", .str "but"])
    (g_MOST_TUPLES : ∃ u, mg "MOST_TUPLES" = some u ∧ RelV (.int 30) u) (g_LETTERS : ∃ u, mg "LETTERS" = some u ∧ RelV (.str "abcdefghijklmnopqrstuvwxyz") u)
    (c_Reader_must : Mn P w K mg base C 1 "must" (spMust CN)) (c_Reader_skip : Mn P w K mg base C 2 "skip" (spSkip C CN)) (c_Reader_run : Mn P w K mg base C 1 "run" (spRun C)) (c_Reader_number : Mn P w K mg base C 3 "number" (spNumber C CN)) (c_Reader_signs_there : Mn P w K mg base C 3 "signs_there" (spRSigns C CN)) :
    ∀ n, Mn P w K mg base C (4 + 3 * n) "beat" (spRBeat K C CN n)
  | 0 => .of (FnOk.imp never_ok fun _ _ _ _ h => by
      obtain ⟨_, _, _, _, _, _, _, _, _, h1, h2, _⟩ := h
      omega) Mb bb
  | n + 1 => by
    have hb := ok_rdBeats Fb Fi Fp Mb Mi Mp bb bi bp RC g_OF_TWO q_OF_TWO g_MOST_TUPLES g_LETTERS c_Reader_must c_Reader_skip c_Reader_run c_Reader_number c_Reader_signs_there n
    have hi := Mn.of (ok_rdInner Fi RC (show 2 ≤ 4 + 3 * n by omega) c_Reader_skip hb) Mi bi
    have hp := Mn.of (ok_rdParts Fp RC g_OF_TWO q_OF_TWO (show 4 ≤ 4 + 3 * n + 1 by omega) c_Reader_must c_Reader_number c_Reader_signs_there hi) Mp bp
    exact .of (ok_rdBeat Fb RC g_MOST_TUPLES g_LETTERS (show 4 ≤ 4 + 3 * n + 1 + 1 by omega) c_Reader_must c_Reader_skip c_Reader_run hp) Mb bb


theorem Ex.behind {r : Addr} {H H1 H2 : Hp} (e : Ex H H1) (e2 : Exb r H1 H2) (n : H r = none) : Ex H H2 := fun a o ha => e2 a o (ne_of_none ha n) (e a o ha)
theorem sc_read : FnScope ["text", "reader", "found"] ["text"] (defScope s_read) := ⟨rfl, rfl, rfl, by decide +kernel, rfl, by decide +kernel, by decide +kernel⟩
/-- a text, read -/
def readD (T : List Nat) : Option PyData := (beatR 31 T 0 0).bind fun x => if x.2.1 = T.length ∧ isBeatD x.1 = true then some x.1 else none
def spRead (K : PySem.W.Frag) (CN : Addr) : Sp := fun vs H Q E => ∃ (T : Str), vs = [.str T] ∧ (TL.tl T).length ≤ 1000000 ∧ (∀ d q m, beatR 31 (TL.tl T) 0 0 = some (d, q, m) → fine d = true) ∧
  (∀ d, readD (TL.tl T) = some d → ∀ v H', Ex H H' → Dp K H' v d → Q v H') ∧ (readD (TL.tl T) = none → ∀ H', Ex H H' → E (.ref CN) none H')
theorem ok_read {f C CN : Addr} {fd : FuncData} (F : Fun K "read" "read" s_read f fd) (B : Blt mg) (RC : RdC K mg C) (MK : MkR P w K mg base C 1 (spRInit C)) (c_Reader_beat : Mn P w K mg base C 97 "beat" (spRBeat K C CN 31)) (c_Reader_must : Mn P w K mg base C 1 "must" (spMust CN)) (c_is_beat : Dn P w K mg base 4 "is_beat" (spIsBeat K)) :
    FnOk P w K mg base (L2.CX P w) 98 f fd ["text"] (spRead K CN) := by
  have nd := sc_read.nd
  refine F.okX sc_read (fun vs H Q E h => ?_) (fun cdv A outer s H vs Q E hr h => ?_)
  · obtain ⟨T, rfl, _⟩ := h
    rfl
  · obtain ⟨T, rfl, hT, hfin, q1, q2⟩ := h
    have hTl : T.length = (TL.tl T).length := TL.len_tl T
    refine ⟨_, 
    (pss_cons (ps_set (i := 1) nd rfl (Or.inl rfl) (pe_mkR MK hr (by decide) (by rfl) RC.gC (passes_call (takes_of rfl rfl rfl rfl) fun _ _ _ _ h => h) (pa_cons (pv 0) pa_nil)))
    (pss_cons (ps_set (i := 2) nd rfl (Or.inl rfl) (pe_mn0 c_Reader_beat RC.cl hr (by decide) (passes_call (takes_of rfl rfl rfl rfl) fun _ _ _ _ h => h) (pv 1)))
    (pss_cons (ps_expr (pe_mn c_Reader_must RC.cl hr (by decide) (passes_call (takes_of rfl rfl rfl rfl) fun _ _ _ _ h => h) (pv 1) (pa_cons (pe_and (pe_cmpR op_eq (pe_fld (pv 1) rfl) (pe_callB call_len_str (by rfl) B.len PySem.boot_len (pa_cons (pv 0) pa_nil)) (nomark _)) (pe_one (pe_d c_is_beat hr (by decide) (passes_call (takes_of rfl rfl rfl rfl) fun _ _ _ _ h => h) (by rfl) (pa_cons (pv 2) pa_nil)))) pa_nil)))
    (pss_one (ps_ret (pv 2)))))), ?_⟩
    try dsimp only [cxOf, Cx.nox, Cx.wish]
    walk_at "norm"
    refine ⟨_, rfl, fun r dx nr ndx hne => ?_⟩
    refine ⟨r, dx, T, rfl, upd_same, fun H1 e1 hR1 => ⟨rfl, ?_⟩⟩
    have e01 : Ex H H1 := fun a o ha => e1 a o (ne_of_none ha nr) (by rw [upd_ne (ne_of_none ha nr), upd_ne (ne_of_none ha ndx)]; exact ha)
    refine ⟨_, rfl, r, dx, _, rfl, hR1, rd_m_beat _ _ _, ?_⟩
    unfold readD at q1 q2
    refine ⟨r, dx, T, 0, 0, rfl, hR1, hT, Nat.zero_le _, by decide, by decide, fun d q m' hb v H2 e2 hR2 hd => ?_, fun hb H2 e2 => q2 (by rw [hb]; rfl) _ (e01.behind e2 nr)⟩
    have e02 : Ex H H2 := e01.behind e2 nr
    rw [hb] at q1 q2
    refine ⟨_, rfl, r, dx, _, rfl, hR2, rd_m_must _ _ _, ?_⟩
    refine ⟨_, rfl, r, C, dx, _, _, rfl, hR2, RC.cl, RC.nP, rd_place _ _ _, ?_⟩
    refine ⟨_, rfl, _, rfl, Nat.le_trans (show T.length ≤ 1000000 by omega) (by decide), ?_⟩
    refine ⟨rfl, _, rfl, ?_⟩
    have fin : ∀ g H3, Ex H2 H3 → g = (decide (q = (TL.tl T).length) && isBeatD d) → spMust CN [V.ref r, .bl g] H3 (fun _ H1 => (tRet (tVar 2) { nx := fun _ H' => Q V.non H', rt := Q }) [some (.str T), some (.ref r), some v] H1) E := by
      rintro g H3 e3 rfl
      refine ⟨r, _, rfl, fun hg H4 e4 => ?_, fun hg H4 e4 => ?_⟩
      · rw [Bool.and_eq_true, decide_eq_true_eq] at hg
        refine ⟨_, rfl, ?_⟩
        exact q1 _ (if_pos hg) _ _ (e02.trans (e3.trans e4)) ((e3.trans e4).dp hd)
      · rw [← Bool.not_eq_true, Bool.and_eq_true, decide_eq_true_eq] at hg
        exact q2 (if_neg hg) _ (e02.trans (e3.trans e4))
    refine ite2 (fun c => ?_) (fun c => ?_)
    · have c := V.int.inj (of_decide_eq_true c)
      refine ⟨_, rfl, v, d, rfl, hd, hfin _ _ _ hb, fun H3 e3 => ?_⟩
      exact fin _ _ e3 (by rw [decide_eq_true (show q = (TL.tl T).length by omega), Bool.true_and])
    · have c : ¬ (q : Int) = (T.length : Int) := fun z => c (decide_eq_true (congrArg V.int z))
      exact fin _ _ (Ex.refl _) (by rw [decide_eq_false (show ¬ q = (TL.tl T).length by omega), Bool.false_and])
theorem sc__law_whole : FnScope ["_law_thing", "_law_least", "_law_most"] ["_law_thing", "_law_least", "_law_most"] (defScope s__law_whole) := ⟨rfl, rfl, rfl, by decide +kernel, rfl, by decide +kernel, by decide +kernel⟩
theorem ok__law_whole {f : Addr} {fd : FuncData} (F : Fun K "_law_whole" "_law_whole" s__law_whole f fd) (B : Blt mg) : FnOk P w K mg base CX0 1 f fd ["_law_thing", "_law_least", "_law_most"] (spWhole K) := by
  have nd := sc__law_whole.nd
  refine F.ok sc__law_whole (fun vs H Q E h => ?_) (fun cdv A outer s H vs Q E hr h => ?_)
  · obtain ⟨v, d, lo, hi, rfl, _⟩ := h
    rfl
  · obtain ⟨v, d, lo, hi, rfl, hd, q⟩ := h
    refine ⟨_, 
    (pss_one (ps_ret (pe_and (pe_callB (isiD (K := K) rfl) (by rfl) B.isinstance bt_isinstance (pa_cons (pv 0) (pa_cons (pe_bltn (v := .ty "int") (u := Value.type "int") (by rfl) B.int bt_int rfl) pa_nil))) (pe_and (pe_not (pe_callB (isiD (K := K) rfl) (by rfl) B.isinstance bt_isinstance (pa_cons (pv 0) (pa_cons (pe_bltn (v := .ty "bool") (u := Value.type "bool") (by rfl) B.bool bt_bool rfl) pa_nil)))) (pe_one (pe_chain op_le op_le (pv 1) (pv 0) (pv 2))))))), ?_⟩
    try dsimp only [cxOf, Cx.nox, Cx.wish]
    cases d with
    | int i =>
      cases hd
      walk_at "go"
      simp only [isA_tab]
      walk_at "go"
      have q : Q (.bl (decide (lo ≤ i) && decide (i ≤ hi))) H := q
      refine ite2 (fun c => ?_) (fun c => ?_)
      · walk_at "go"
        rw [c, Bool.true_and] at q
        exact q
      · rw [Bool.eq_false_iff.mpr c, Bool.false_and] at q
        exact q
    | bool b =>
      walk_at "go"
      simp only [isA_tab]
      walk_at "go"
      exact q
    | dict _ => cases hd
    | _ =>
      walk_at "go"
      simp only [isA_tab]
      exact q
/-! ### how many tuples a beat has -/
theorem inner_depth {d : PyData} {es : List PyData} (h : innerOf d = some es) : ∀ e ∈ es, PyData.depth e < PyData.depth d := by
  cases d with
  | tuple ds =>
    have e : innerT ds = some es := h
    have hm : ∀ i, i < ds.length → PyData.depth (atD ds i) < PyData.depth (.tuple ds) := fun i hi => depth_parts (d := .tuple ds) _ (atD_mem hi)
    unfold innerT at e
    intro x hx
    repeat' split at e
    all_goals first | cases e | skip
    all_goals
      rename_i hc
      simp only [Bool.and_eq_true, decide_eq_true_eq] at hc
    · cases hx
    · rcases List.mem_singleton.mp hx with rfl; exact hm _ (by omega)
    · rcases List.mem_singleton.mp hx with rfl; exact hm _ (by omega)
    · rcases List.mem_singleton.mp hx with rfl; exact hm _ (by omega)
    · rcases List.mem_cons.mp hx with rfl | hx
      · exact hm _ (by omega)
      · rcases List.mem_singleton.mp hx with rfl; exact hm _ (by omega)
    · rcases List.mem_cons.mp hx with rfl | hx
      · exact hm _ (by omega)
      · rcases List.mem_singleton.mp hx with rfl; exact hm _ (by omega)
  | _ => cases h
def countF : Nat → PyData → Nat
  | 0, _ => 99
  | k + 1, d => match innerOf d with
    | none => 99
    | some es => 1 + (es.map (countF k)).sum
theorem count_stable : ∀ (f g : Nat) (d : PyData), PyData.depth d < f → PyData.depth d < g → countF f d = countF g d
  | 0, _, _, h, _ => absurd h (Nat.not_lt_zero _)
  | _ + 1, 0, _, _, h => absurd h (Nat.not_lt_zero _)
  | f + 1, g + 1, d, hf, hg => by
    rw [countF, countF]
    cases h : innerOf d with
    | none => rfl
    | some es =>
      have e : es.map (countF f) = es.map (countF g) := List.map_congr_left fun x hx => count_stable f g x (by have := inner_depth h x hx; omega) (by have := inner_depth h x hx; omega)
      show 1 + (es.map (countF f)).sum = 1 + (es.map (countF g)).sum
      rw [e]
def countN (d : PyData) : Nat := countF (PyData.depth d + 1) d
theorem countN_step (d : PyData) : countN d = match innerOf d with
    | none => 99
    | some es => 1 + (es.map countN).sum := by
  unfold countN
  rw [countF]
  cases h : innerOf d with
  | none => rfl
  | some es =>
    have e : es.map (countF (PyData.depth d)) = es.map fun x => countF (PyData.depth x + 1) x := List.map_congr_left fun x hx => count_stable _ _ x (inner_depth h x hx) (Nat.lt_succ_self _)
    show 1 + (es.map (countF (PyData.depth d))).sum = 1 + (es.map fun x => countF (PyData.depth x + 1) x).sum
    rw [e]
theorem count_pos (d : PyData) : 1 ≤ countN d := by
  rw [countN_step]
  cases innerOf d with
  | none => decide
  | some es => exact Nat.le_add_right 1 _
theorem count_look : ∀ (k : Nat) (l : List PyData), k ≤ 98 → lookFrom k l = decide ((l.map countN).sum ≤ k)
  | k, [], _ => by cases k <;> rfl
  | 0, d :: r, _ => by
    have := count_pos d
    rw [List.map_cons, List.sum_cons, decide_eq_false (by omega)]
    rfl
  | k + 1, d :: r, hk => by
    rw [lookFrom, List.map_cons, List.sum_cons, countN_step d]
    cases innerOf d with
    | none =>
      show false = _
      rw [decide_eq_false (show ¬ 99 + (r.map countN).sum ≤ k + 1 by omega)]
    | some es =>
      show lookFrom k (es.reverse ++ r) = decide (1 + (es.map countN).sum + (r.map countN).sum ≤ k + 1)
      rw [count_look k _ (by omega)]
      simp only [List.map_append, List.sum_append, List.map_reverse, List.sum_reverse]
      exact decide_eq_decide.mpr (by omega)
theorem count_is (d : PyData) : decide (countN d ≤ 30) = isBeatD d := by
  have := count_look 30 [d] (by decide)
  simp only [List.map_cons, List.map_nil, List.sum_cons, List.sum_nil, Nat.add_zero] at this
  exact this.symm
/-! ### words, their sizes, their places -/
def sizeW (w : Str) : Nat := if w = "source" then 1 else if w = "every" then 4 else if w = "gate" then 3 else if w = "later" then 3 else if w = "either" then 3 else if w = "both" then 3 else if w = "but" then 3 else if w = "led" then 5 else 0
def placesW (w : Str) : List Nat := if w = "source" then [] else if w = "every" then [3] else if w = "gate" then [2] else if w = "later" then [2] else if w = "either" then [1, 2] else if w = "both" then [1, 2] else if w = "but" then [1, 2] else [1, 3]
def rightT (ds : List PyData) : Bool :=
  if isWord "every" (atD ds 0) then isEvery ds else if isWord "gate" (atD ds 0) then areSigns (atD ds 1) else if isWord "later" (atD ds 0) then isWhole 0 99 (atD ds 1)
  else if isWord "led" (atD ds 0) then isWhole 0 9999 (atD ds 2) && isWhole 0 9999 (atD ds 4) else true
theorem eight {w : Str} (h : sizeW w ≠ 0) : w = "source" ∨ w = "every" ∨ w = "gate" ∨ w = "later" ∨ w = "either" ∨ w = "both" ∨ w = "but" ∨ w = "led" := by
  unfold sizeW at h
  by_cases h1 : w = "source"
  · exact .inl h1
  by_cases h2 : w = "every"
  · exact .inr (.inl h2)
  by_cases h3 : w = "gate"
  · exact .inr (.inr (.inl h3))
  by_cases h4 : w = "later"
  · exact .inr (.inr (.inr (.inl h4)))
  by_cases h5 : w = "either"
  · exact .inr (.inr (.inr (.inr (.inl h5))))
  by_cases h6 : w = "both"
  · exact .inr (.inr (.inr (.inr (.inr (.inl h6)))))
  by_cases h7 : w = "but"
  · exact .inr (.inr (.inr (.inr (.inr (.inr (.inl h7))))))
  by_cases h8 : w = "led"
  · exact .inr (.inr (.inr (.inr (.inr (.inr (.inr h8))))))
  simp [h1, h2, h3, h4, h5, h6, h7, h8] at h
theorem size_eq : sizeW "source" = 1 ∧ sizeW "every" = 4 ∧ sizeW "gate" = 3 ∧ sizeW "later" = 3 ∧ sizeW "either" = 3 ∧ sizeW "both" = 3 ∧ sizeW "but" = 3 ∧ sizeW "led" = 5 := by decide +kernel
theorem places_eq : placesW "source" = [] ∧ placesW "every" = [3] ∧ placesW "gate" = [2] ∧ placesW "later" = [2] ∧ placesW "either" = [1, 2] ∧ placesW "both" = [1, 2] ∧ placesW "but" = [1, 2] ∧ placesW "led" = [1, 3] := by decide +kernel
theorem beq_word (a b : Str) : (a == b) = decide (a = b) := by rw [Bool.eq_iff_iff, beq_iff_eq, decide_eq_true_eq]
/-- a tuple with a word ahead: what is_beat looks into -/
theorem inner_word {w : Str} {r : List PyData} : innerT (.str w :: r) = if sizeW w = (PyData.str w :: r).length ∧ rightT (.str w :: r) = true then some ((placesW w).map (atD (.str w :: r))) else none := by
  by_cases h0 : sizeW w = 0
  · have hn : ∀ x : String, sizeW (Str.ofString x) ≠ 0 → isWord (Str.ofString x) (.str w) = false := fun x hx => by
      rw [word_is, beq_eq_false_iff_ne]
      exact fun z => hx (by rw [← z]; exact h0)
    have a0 : atD (PyData.str w :: r) 0 = .str w := rfl
    rw [if_neg (fun z => by rw [h0] at z; exact absurd z.1.symm (Nat.succ_ne_zero _))]
    unfold innerT
    rw [a0, hn "source" (by decide +kernel), hn "every" (by decide +kernel), hn "gate" (by decide +kernel), hn "later" (by decide +kernel), hn "either" (by decide +kernel), hn "both" (by decide +kernel), hn "but" (by decide +kernel), hn "led" (by decide +kernel)]
    rfl
  · obtain ⟨s1, s2, s3, s4, s5, s6, s7, s8⟩ := size_eq
    obtain ⟨p1, p2, p3, p4, p5, p6, p7, p8⟩ := places_eq
    rcases eight h0 with rfl | rfl | rfl | rfl | rfl | rfl | rfl | rfl
    · have a0 : atD (PyData.str "source" :: r) 0 = .str "source" := rfl
      have f_source : isWord "source" (.str "source") = true := by rw [word_is]; decide +kernel
      have f_every : isWord "every" (.str "source") = false := by rw [word_is]; decide +kernel
      have f_gate : isWord "gate" (.str "source") = false := by rw [word_is]; decide +kernel
      have f_later : isWord "later" (.str "source") = false := by rw [word_is]; decide +kernel
      have f_either : isWord "either" (.str "source") = false := by rw [word_is]; decide +kernel
      have f_both : isWord "both" (.str "source") = false := by rw [word_is]; decide +kernel
      have f_but : isWord "but" (.str "source") = false := by rw [word_is]; decide +kernel
      have f_led : isWord "led" (.str "source") = false := by rw [word_is]; decide +kernel
      rw [s1, p1]
      unfold innerT rightT
      simp only [a0, f_source, f_every, f_gate, f_later, f_either, f_both, f_but, f_led, Bool.false_and, Bool.true_and, Bool.false_or, Bool.or_false, Bool.true_or, Bool.or_true, Bool.false_eq_true, if_false, if_true, List.isEmpty_cons]
      by_cases h : (PyData.str "source" :: r).length = 1
      · simp only [h, decide_true, Bool.true_and, true_and, and_true, and_self, if_true, List.map_cons, List.map_nil]
      · simp only [decide_eq_false h, Bool.false_and, Bool.false_eq_true, if_false]
        exact (if_neg (fun z => h (by first | exact z.1.symm | exact z.symm))).symm
    · have a0 : atD (PyData.str "every" :: r) 0 = .str "every" := rfl
      have f_source : isWord "source" (.str "every") = false := by rw [word_is]; decide +kernel
      have f_every : isWord "every" (.str "every") = true := by rw [word_is]; decide +kernel
      have f_gate : isWord "gate" (.str "every") = false := by rw [word_is]; decide +kernel
      have f_later : isWord "later" (.str "every") = false := by rw [word_is]; decide +kernel
      have f_either : isWord "either" (.str "every") = false := by rw [word_is]; decide +kernel
      have f_both : isWord "both" (.str "every") = false := by rw [word_is]; decide +kernel
      have f_but : isWord "but" (.str "every") = false := by rw [word_is]; decide +kernel
      have f_led : isWord "led" (.str "every") = false := by rw [word_is]; decide +kernel
      rw [s2, p2]
      unfold innerT rightT
      simp only [a0, f_source, f_every, f_gate, f_later, f_either, f_both, f_but, f_led, Bool.false_and, Bool.true_and, Bool.false_or, Bool.or_false, Bool.true_or, Bool.or_true, Bool.false_eq_true, if_false, if_true, List.isEmpty_cons]
      by_cases h : (PyData.str "every" :: r).length = 4
      · simp only [h, decide_true, Bool.true_and, true_and, and_true, and_self, if_true, List.map_cons, List.map_nil]
      · simp only [decide_eq_false h, Bool.false_and, Bool.false_eq_true, if_false]
        exact (if_neg (fun z => h (by first | exact z.1.symm | exact z.symm))).symm
    · have a0 : atD (PyData.str "gate" :: r) 0 = .str "gate" := rfl
      have f_source : isWord "source" (.str "gate") = false := by rw [word_is]; decide +kernel
      have f_every : isWord "every" (.str "gate") = false := by rw [word_is]; decide +kernel
      have f_gate : isWord "gate" (.str "gate") = true := by rw [word_is]; decide +kernel
      have f_later : isWord "later" (.str "gate") = false := by rw [word_is]; decide +kernel
      have f_either : isWord "either" (.str "gate") = false := by rw [word_is]; decide +kernel
      have f_both : isWord "both" (.str "gate") = false := by rw [word_is]; decide +kernel
      have f_but : isWord "but" (.str "gate") = false := by rw [word_is]; decide +kernel
      have f_led : isWord "led" (.str "gate") = false := by rw [word_is]; decide +kernel
      rw [s3, p3]
      unfold innerT rightT
      simp only [a0, f_source, f_every, f_gate, f_later, f_either, f_both, f_but, f_led, Bool.false_and, Bool.true_and, Bool.false_or, Bool.or_false, Bool.true_or, Bool.or_true, Bool.false_eq_true, if_false, if_true, List.isEmpty_cons]
      by_cases h : (PyData.str "gate" :: r).length = 3
      · simp only [h, decide_true, Bool.true_and, true_and, and_true, and_self, if_true, List.map_cons, List.map_nil]
      · simp only [decide_eq_false h, Bool.false_and, Bool.false_eq_true, if_false]
        exact (if_neg (fun z => h (by first | exact z.1.symm | exact z.symm))).symm
    · have a0 : atD (PyData.str "later" :: r) 0 = .str "later" := rfl
      have f_source : isWord "source" (.str "later") = false := by rw [word_is]; decide +kernel
      have f_every : isWord "every" (.str "later") = false := by rw [word_is]; decide +kernel
      have f_gate : isWord "gate" (.str "later") = false := by rw [word_is]; decide +kernel
      have f_later : isWord "later" (.str "later") = true := by rw [word_is]; decide +kernel
      have f_either : isWord "either" (.str "later") = false := by rw [word_is]; decide +kernel
      have f_both : isWord "both" (.str "later") = false := by rw [word_is]; decide +kernel
      have f_but : isWord "but" (.str "later") = false := by rw [word_is]; decide +kernel
      have f_led : isWord "led" (.str "later") = false := by rw [word_is]; decide +kernel
      rw [s4, p4]
      unfold innerT rightT
      simp only [a0, f_source, f_every, f_gate, f_later, f_either, f_both, f_but, f_led, Bool.false_and, Bool.true_and, Bool.false_or, Bool.or_false, Bool.true_or, Bool.or_true, Bool.false_eq_true, if_false, if_true, List.isEmpty_cons]
      by_cases h : (PyData.str "later" :: r).length = 3
      · simp only [h, decide_true, Bool.true_and, true_and, and_true, and_self, if_true, List.map_cons, List.map_nil]
      · simp only [decide_eq_false h, Bool.false_and, Bool.false_eq_true, if_false]
        exact (if_neg (fun z => h (by first | exact z.1.symm | exact z.symm))).symm
    · have a0 : atD (PyData.str "either" :: r) 0 = .str "either" := rfl
      have f_source : isWord "source" (.str "either") = false := by rw [word_is]; decide +kernel
      have f_every : isWord "every" (.str "either") = false := by rw [word_is]; decide +kernel
      have f_gate : isWord "gate" (.str "either") = false := by rw [word_is]; decide +kernel
      have f_later : isWord "later" (.str "either") = false := by rw [word_is]; decide +kernel
      have f_either : isWord "either" (.str "either") = true := by rw [word_is]; decide +kernel
      have f_both : isWord "both" (.str "either") = false := by rw [word_is]; decide +kernel
      have f_but : isWord "but" (.str "either") = false := by rw [word_is]; decide +kernel
      have f_led : isWord "led" (.str "either") = false := by rw [word_is]; decide +kernel
      rw [s5, p5]
      unfold innerT rightT
      simp only [a0, f_source, f_every, f_gate, f_later, f_either, f_both, f_but, f_led, Bool.false_and, Bool.true_and, Bool.false_or, Bool.or_false, Bool.true_or, Bool.or_true, Bool.false_eq_true, if_false, if_true, List.isEmpty_cons]
      by_cases h : (PyData.str "either" :: r).length = 3
      · simp only [h, decide_true, Bool.true_and, true_and, and_true, and_self, if_true, List.map_cons, List.map_nil]
      · simp only [decide_eq_false h, Bool.false_and, Bool.false_eq_true, if_false]
        exact (if_neg (fun z => h (by first | exact z.1.symm | exact z.symm))).symm
    · have a0 : atD (PyData.str "both" :: r) 0 = .str "both" := rfl
      have f_source : isWord "source" (.str "both") = false := by rw [word_is]; decide +kernel
      have f_every : isWord "every" (.str "both") = false := by rw [word_is]; decide +kernel
      have f_gate : isWord "gate" (.str "both") = false := by rw [word_is]; decide +kernel
      have f_later : isWord "later" (.str "both") = false := by rw [word_is]; decide +kernel
      have f_either : isWord "either" (.str "both") = false := by rw [word_is]; decide +kernel
      have f_both : isWord "both" (.str "both") = true := by rw [word_is]; decide +kernel
      have f_but : isWord "but" (.str "both") = false := by rw [word_is]; decide +kernel
      have f_led : isWord "led" (.str "both") = false := by rw [word_is]; decide +kernel
      rw [s6, p6]
      unfold innerT rightT
      simp only [a0, f_source, f_every, f_gate, f_later, f_either, f_both, f_but, f_led, Bool.false_and, Bool.true_and, Bool.false_or, Bool.or_false, Bool.true_or, Bool.or_true, Bool.false_eq_true, if_false, if_true, List.isEmpty_cons]
      by_cases h : (PyData.str "both" :: r).length = 3
      · simp only [h, decide_true, Bool.true_and, true_and, and_true, and_self, if_true, List.map_cons, List.map_nil]
      · simp only [decide_eq_false h, Bool.false_and, Bool.false_eq_true, if_false]
        exact (if_neg (fun z => h (by first | exact z.1.symm | exact z.symm))).symm
    · have a0 : atD (PyData.str "but" :: r) 0 = .str "but" := rfl
      have f_source : isWord "source" (.str "but") = false := by rw [word_is]; decide +kernel
      have f_every : isWord "every" (.str "but") = false := by rw [word_is]; decide +kernel
      have f_gate : isWord "gate" (.str "but") = false := by rw [word_is]; decide +kernel
      have f_later : isWord "later" (.str "but") = false := by rw [word_is]; decide +kernel
      have f_either : isWord "either" (.str "but") = false := by rw [word_is]; decide +kernel
      have f_both : isWord "both" (.str "but") = false := by rw [word_is]; decide +kernel
      have f_but : isWord "but" (.str "but") = true := by rw [word_is]; decide +kernel
      have f_led : isWord "led" (.str "but") = false := by rw [word_is]; decide +kernel
      rw [s7, p7]
      unfold innerT rightT
      simp only [a0, f_source, f_every, f_gate, f_later, f_either, f_both, f_but, f_led, Bool.false_and, Bool.true_and, Bool.false_or, Bool.or_false, Bool.true_or, Bool.or_true, Bool.false_eq_true, if_false, if_true, List.isEmpty_cons]
      by_cases h : (PyData.str "but" :: r).length = 3
      · simp only [h, decide_true, Bool.true_and, true_and, and_true, and_self, if_true, List.map_cons, List.map_nil]
      · simp only [decide_eq_false h, Bool.false_and, Bool.false_eq_true, if_false]
        exact (if_neg (fun z => h (by first | exact z.1.symm | exact z.symm))).symm
    · have a0 : atD (PyData.str "led" :: r) 0 = .str "led" := rfl
      have f_source : isWord "source" (.str "led") = false := by rw [word_is]; decide +kernel
      have f_every : isWord "every" (.str "led") = false := by rw [word_is]; decide +kernel
      have f_gate : isWord "gate" (.str "led") = false := by rw [word_is]; decide +kernel
      have f_later : isWord "later" (.str "led") = false := by rw [word_is]; decide +kernel
      have f_either : isWord "either" (.str "led") = false := by rw [word_is]; decide +kernel
      have f_both : isWord "both" (.str "led") = false := by rw [word_is]; decide +kernel
      have f_but : isWord "but" (.str "led") = false := by rw [word_is]; decide +kernel
      have f_led : isWord "led" (.str "led") = true := by rw [word_is]; decide +kernel
      rw [s8, p8]
      unfold innerT rightT
      simp only [a0, f_source, f_every, f_gate, f_later, f_either, f_both, f_but, f_led, Bool.false_and, Bool.true_and, Bool.false_or, Bool.or_false, Bool.true_or, Bool.or_true, Bool.false_eq_true, if_false, if_true, List.isEmpty_cons]
      by_cases h : (PyData.str "led" :: r).length = 5
      · simp only [h, decide_true, Bool.true_and, true_and, and_true, and_self, if_true, List.map_cons, List.map_nil]
      · simp only [decide_eq_false h, Bool.false_and, Bool.false_eq_true, if_false]
        exact (if_neg (fun z => h (by first | exact z.1.symm | exact z.symm))).symm
theorem sc__law_right : FnScope ["_law_beat_here", "_law_sign"] ["_law_beat_here"] (defScope s__law_right) := ⟨rfl, rfl, rfl, by decide +kernel, rfl, by decide +kernel, by decide +kernel⟩
theorem neq_sign (c : Nat) : ((!decide (V.str ⟨#[c]⟩ = V.str (Str.ofString "0"))) && (!decide (V.str ⟨#[c]⟩ = V.str (Str.ofString "1")))) = !signOk c := by
  rw [show Str.ofString "0" = strOfL [48] from chs_str "0", show Str.ofString "1" = strOfL [49] from chs_str "1", show V.str ⟨#[c]⟩ = V.str (strOfL [c]) from rfl, eq_strOf, eq_strOf]
  unfold signOk
  by_cases h : c = 48
  · subst h
    rfl
  · by_cases h2 : c = 49
    · subst h2
      rfl
    · simp [h, h2]
/-- a tuple of a word and as many parts as it wants: are they right -/
def spRight (K : PySem.W.Frag) : Sp := fun vs H Q _ => ∃ (a : Addr) (xs : List V) (w : Str) (r : List PyData), vs = [.ref a] ∧ SqT K H a xs ∧ DpAll K H xs (.str w :: r) ∧ sizeW w = (PyData.str w :: r).length ∧ (PyData.str w :: r).all textSmall = true ∧ ∀ H', Ex H H' → Q (.bl (rightT (.str w :: r))) H'
theorem ok__law_right {f : Addr} {fd : FuncData} (F : Fun K "_law_right" "_law_right" s__law_right f fd) (B : Blt mg) (c__law_whole : Dn P w K mg base 1 "_law_whole" (spWhole K)) : FnOk P w K mg base CX0 2 f fd ["_law_beat_here"] (spRight K) := by
  have nd := sc__law_right.nd
  refine F.ok sc__law_right (fun vs H Q E h => ?_) (fun cdv A outer s H vs Q E hr h => ?_)
  · obtain ⟨a, xs, w, r, rfl, _⟩ := h
    rfl
  · obtain ⟨a, xs, w, r, rfl, hs, ha, hz, hts, q⟩ := h
    obtain ⟨s1, s2, s3, s4, s5, s6, s7, s8⟩ := size_eq
    have a0 : atD (PyData.str w :: r) 0 = .str w := rfl
    obtain ⟨v0, i0, d0⟩ := dpAll_atD ha 0 (by simp)
    rw [a0] at d0
    cases d0
    have isw : ∀ x : Str, isWord x (atD (PyData.str w :: r) 0) = decide (V.str w = V.str x) := fun x => by
      rw [a0, word_is, beq_word]
      exact decide_eq_decide.mpr ⟨fun h => by rw [h], fun h => V.str.inj h⟩
    unfold rightT at q
    rw [isw, isw, isw, isw] at q
    refine ⟨_, 
    (pss_cons (ps_if (pt_cmpR op_eq (pe_ix (ixt (K := K) rfl) (pv 0) pe_int (fun _ _ => rfl)) pe_str (nomark _)) (pss_one (ps_ret (pe_and (pe_d c__law_whole hr (by decide) passL (by rfl) (pa_cons (pe_ix (ixt (K := K) rfl) (pv 0) pe_int (fun _ _ => rfl)) (pa_cons pe_int (pa_cons pe_int pa_nil)))) (pe_one (pe_d c__law_whole hr (by decide) passL (by rfl) (pa_cons (pe_ix (ixt (K := K) rfl) (pv 0) pe_int (fun _ _ => rfl)) (pa_cons pe_int (pa_cons (pe_op op_sub (pe_ix (ixt (K := K) rfl) (pv 0) pe_int (fun _ _ => rfl)) pe_int) pa_nil)))))))) pss_nil)
    (pss_cons (ps_if (pt_cmpR op_eq (pe_ix (ixt (K := K) rfl) (pv 0) pe_int (fun _ _ => rfl)) pe_str (nomark _)) (pss_cons (ps_if (PW.pt (pw_or (pt_not (pt_val (pe_callB (isiD (K := K) rfl) (by rfl) B.isinstance bt_isinstance (pa_cons (pe_ix (ixt (K := K) rfl) (pv 0) pe_int (fun _ _ => rfl)) (pa_cons (pe_bltn (v := .ty "str") (u := Value.type "str") (by rfl) B.str bt_str rfl) pa_nil))))) (pw_or1 (pt_not (pt_chain op_le op_le pe_int (pe_callB call_len_str (by rfl) B.len PySem.boot_len (pa_cons (pe_ix (ixt (K := K) rfl) (pv 0) pe_int (fun _ _ => rfl)) pa_nil)) pe_int))))) (pss_one (ps_ret pe_bl)) pss_nil)
    (pss_one (ps_ret (pe_cmp (eqNilD (K := K) rfl hr.units (pe_lc (own := [("_law_sign", 1)]) (g := gName 1) rfl nd (pi_str (pe_ix (ixt (K := K) rfl) (pv 0) pe_int (fun _ _ => rfl))) (blkOk_by (N := ["_law_beat_here", "_law_sign"]) (sc := defScope s__law_right) (by decide +kernel)) (fun _ _ _ _ _ => pg_name (i := 1) nd rfl (Or.inl rfl)) (fun _ _ _ _ _ => (pts_one (PW.pt (pw_and (pt_cmpR op_ne (pv 1) pe_str (nomark _)) (pw_and1 (pt_cmpR op_ne (pv 1) pe_str (nomark _))))))) (fun _ _ _ _ _ => (pv 1)))))))) pss_nil)
    (pss_cons (ps_if (pt_cmpR op_eq (pe_ix (ixt (K := K) rfl) (pv 0) pe_int (fun _ _ => rfl)) pe_str (nomark _)) (pss_one (ps_ret (pe_d c__law_whole hr (by decide) passL (by rfl) (pa_cons (pe_ix (ixt (K := K) rfl) (pv 0) pe_int (fun _ _ => rfl)) (pa_cons pe_int (pa_cons pe_int pa_nil)))))) pss_nil)
    (pss_one (ps_ret (pe_or (pe_cmpR op_ne (pe_ix (ixt (K := K) rfl) (pv 0) pe_int (fun _ _ => rfl)) pe_str (nomark _)) (pe_one (pe_and (pe_d c__law_whole hr (by decide) passL (by rfl) (pa_cons (pe_ix (ixt (K := K) rfl) (pv 0) pe_int (fun _ _ => rfl)) (pa_cons pe_int (pa_cons pe_int pa_nil)))) (pe_one (pe_d c__law_whole hr (by decide) passL (by rfl) (pa_cons (pe_ix (ixt (K := K) rfl) (pv 0) pe_int (fun _ _ => rfl)) (pa_cons pe_int (pa_cons pe_int pa_nil))))))))))))), ?_⟩
    try dsimp only [cxOf, Cx.nox, Cx.wish]
    walk_at "norm"
    refine ⟨_, rfl, a, xs, _, _, rfl, rfl, hs, i0, ?_⟩
    refine ⟨rfl, _, rfl, ?_⟩
    refine ite2 (fun c => ?_) (fun c => ?_)
    · rw [if_pos c] at q
      have c : w = "every" := V.str.inj (of_decide_eq_true c)
      subst c
      rw [s2] at hz
      obtain ⟨v1, i1, d1⟩ := dpAll_atD ha 1 (by omega)
      obtain ⟨v2, i2, d2⟩ := dpAll_atD ha 2 (by omega)
      have q : Q (.bl (isWhole 1 12 (atD (.str "every" :: r) 1) && isWhole 0 (intD (atD (.str "every" :: r) 1) - 1) (atD (.str "every" :: r) 2))) H := q H (Ex.refl _)
      refine ⟨_, rfl, a, xs, _, _, rfl, rfl, hs, i1, ?_⟩
      refine ⟨v1, _, _, _, rfl, d1, _, rfl, ?_⟩
      refine ite2 (fun c => ?_) (fun c => ?_)
      · rw [c, Bool.true_and] at q
        obtain ⟨i, hi⟩ : ∃ i, atD (PyData.str "every" :: r) 1 = .int i := by
          cases hh : atD (PyData.str "every" :: r) 1 with
          | int i => exact ⟨i, rfl⟩
          | _ => rw [hh] at c; cases c
        rw [hi] at d1 q
        cases d1
        refine ⟨_, rfl, a, xs, _, _, rfl, rfl, hs, i2, ?_⟩
        refine ⟨_, rfl, a, xs, _, _, rfl, rfl, hs, i1, ?_⟩
        refine ⟨_, _, rfl, rfl, ?_⟩
        exact ⟨v2, _, _, _, rfl, d2, q⟩
      · rw [Bool.eq_false_iff.mpr c, Bool.false_and] at q
        exact q
    rw [if_neg c] at q
    refine ⟨_, rfl, a, xs, _, _, rfl, rfl, hs, i0, ?_⟩
    refine ⟨rfl, _, rfl, ?_⟩
    refine ite2 (fun c2 => ?_) (fun c2 => ?_)
    · rw [if_pos c2] at q
      have c2 : w = "gate" := V.str.inj (of_decide_eq_true c2)
      subst c2
      rw [s3] at hz
      obtain ⟨v1, i1, d1⟩ := dpAll_atD ha 1 (by omega)
      have hsm : textSmall (atD (PyData.str "gate" :: r) 1) = true := List.all_eq_true.mp hts _ (atD_mem (by omega))
      generalize atD (PyData.str "gate" :: r) 1 = d at *
      refine ⟨_, rfl, a, xs, _, _, rfl, rfl, hs, i1, ?_⟩
      refine ⟨v1, _, d, rfl, d1, rfl, ?_⟩
      cases d with
      | str x =>
        cases d1
        simp only [isA_tab]
        refine ⟨_, rfl, ?_⟩
        refine iteF ?_
        have hsm : (decide (x.length ≤ 1000000) && PyData.strOk x) = true := hsm
        rw [Bool.and_eq_true] at hsm
        obtain ⟨hz1, hk⟩ := hsm
        have hz1 : x.length ≤ 1000000 := of_decide_eq_true hz1
        have q : ∀ H', Ex H H' → Q (.bl (decide (1 ≤ x.length) && decide (x.length ≤ 12) && x.cps.toList.all signOk)) H' := q
        refine ⟨_, rfl, a, xs, _, _, rfl, rfl, hs, i1, ?_⟩
        refine ⟨_, rfl, Nat.le_trans hz1 (by decide), ?_⟩
        refine ⟨_, _, rfl, rfl, _, rfl, ?_⟩
        refine ite2 (fun e1 => ?_) (fun e1 => ?_)
        · have e1 : (1 : Int) ≤ (x.length : Int) := of_decide_eq_true e1
          refine ⟨_, _, rfl, rfl, _, rfl, ?_⟩
          refine ite2 (fun e2 => ?_) (fun e2 => ?_)
          · have e2 := of_bnot e2
            rw [decide_eq_false (show ¬ x.length ≤ 12 by omega), Bool.and_false, Bool.false_and] at q
            exact q _ (Ex.refl _)
          · have e2 := not_bnot e2
            rw [decide_eq_true (show 1 ≤ x.length by omega), decide_eq_true (show x.length ≤ 12 by omega), Bool.true_and, Bool.true_and] at q
            refine ⟨_, rfl, a, xs, _, _, rfl, rfl, hs, i1, ?_⟩
            refine ⟨x, rfl, ?_⟩
            refine lc_out (fun i => (x.cps[i]?).bind fun c => if (!signOk c) = true then some (.str ⟨#[c]⟩) else none) Goes.str (by show x.length ≤ 1000000; omega) ?_ ?_
            · rintro i y H' hi e ⟨c, hc, rfl⟩ R hR
              refine ⟨rfl, ?_⟩
              refine ⟨_, rfl, rfl, _, rfl, ?_⟩
              have hn := neq_sign c
              by_cases n1 : (!decide (V.str ⟨#[c]⟩ = V.str (Str.ofString "0"))) = true
              · rw [n1, Bool.true_and] at hn
                rw [n1]
                refine iteT ?_
                refine ⟨_, rfl, rfl, _, rfl, ?_⟩
                rw [hn]
                refine ite2 (fun n2 => ?_) (fun n2 => ?_)
                · refine ⟨_, rfl, ?_⟩
                  exact hR _ _ (by rw [hc]; exact if_pos n2) (Ex.refl _)
                · exact hR _ _ (by rw [hc]; exact if_neg n2) (Ex.refl _)
              · rw [Bool.eq_false_iff.mpr n1, Bool.false_and] at hn
                rw [Bool.eq_false_iff.mpr n1]
                refine iteF ?_
                refine iteF ?_
                exact hR _ _ (by rw [hc]; exact if_neg (by rw [← hn]; decide)) (Ex.refl _)
            intro p2 H2 np e2 hp
            rw [show x.cps.size = x.cps.toList.length by simp, outs_filter (p := fun c => !signOk c) (f := fun c => V.str ⟨#[c]⟩) (l := x.cps.toList) (fun i c hc => by
              have hc' : x.cps[i]? = some c := by rw [← hc]; simp
              show ((x.cps[i]?).bind _) = _
              rw [hc']
              rfl)] at hp
            refine ⟨_, _, rfl, .lst (.of hp) (dpAll_chars _), shaped_chars fun c hc => ?_, ?_⟩
            · have h1 := (List.mem_filter.mp hc).1
              have := (Array.all_eq_true_iff_forall_mem.mp hk) c (by simpa using h1)
              simpa using this
            refine nE_intro fun H3 e3 => ?_
            have ee : (List.map (fun c => PyData.str ⟨#[c]⟩) (List.filter (fun c => !signOk c) x.cps.toList)).isEmpty = x.cps.toList.all signOk := by
              generalize x.cps.toList = l
              induction l with
              | nil => rfl
              | cons c r ih =>
                cases h : signOk c <;> simp [h] at ih ⊢
                exact ih
            rw [ee]
            exact q _ (e2.trans e3)
        · refine ⟨_, rfl, ?_⟩
          refine iteT ?_
          have e1 := not_dec e1
          rw [decide_eq_false (show ¬ 1 ≤ x.length by omega), Bool.false_and, Bool.false_and] at q
          exact q _ (Ex.refl _)
      | dict _ => cases d1
      | _ =>
        simp only [isA_tab]
        refine ⟨_, rfl, ?_⟩
        refine iteT ?_
        exact q _ (Ex.refl _)
    rw [if_neg c2] at q
    refine ⟨_, rfl, a, xs, _, _, rfl, rfl, hs, i0, ?_⟩
    refine ⟨rfl, _, rfl, ?_⟩
    refine ite2 (fun c3 => ?_) (fun c3 => ?_)
    · rw [if_pos c3] at q
      have c3 : w = "later" := V.str.inj (of_decide_eq_true c3)
      subst c3
      rw [s4] at hz
      obtain ⟨v1, i1, d1⟩ := dpAll_atD ha 1 (by omega)
      refine ⟨_, rfl, a, xs, _, _, rfl, rfl, hs, i1, ?_⟩
      exact ⟨v1, _, _, _, rfl, d1, q _ (Ex.refl _)⟩
    rw [if_neg c3] at q
    refine ⟨_, rfl, a, xs, _, _, rfl, rfl, hs, i0, ?_⟩
    refine ⟨rfl, _, rfl, ?_⟩
    by_cases c4 : decide (V.str w = V.str "led") = true
    · rw [if_pos c4] at q
      rw [c4]
      have c4 : w = "led" := V.str.inj (of_decide_eq_true c4)
      subst c4
      rw [s8] at hz
      obtain ⟨v2, i2, d2⟩ := dpAll_atD ha 2 (by omega)
      obtain ⟨v4, i4, d4⟩ := dpAll_atD ha 4 (by omega)
      have q := q H (Ex.refl _)
      refine iteF ?_
      refine ⟨_, rfl, a, xs, _, _, rfl, rfl, hs, i2, ?_⟩
      refine ⟨v2, _, _, _, rfl, d2, _, rfl, ?_⟩
      refine ite2 (fun c5 => ?_) (fun c5 => ?_)
      · rw [c5, Bool.true_and] at q
        refine ⟨_, rfl, a, xs, _, _, rfl, rfl, hs, i4, ?_⟩
        exact ⟨v4, _, _, _, rfl, d4, q⟩
      · rw [Bool.eq_false_iff.mpr c5, Bool.false_and] at q
        exact q
    · rw [if_neg c4] at q
      rw [Bool.eq_false_iff.mpr c4]
      refine iteT ?_
      exact q _ (Ex.refl _)
theorem sc__law_counted : FnScope ["_law_beat_here", "_law_places", "_law_sizes", "_law_place"] ["_law_beat_here"] (defScope s__law_counted) := ⟨rfl, rfl, rfl, by decide +kernel, rfl, by decide +kernel, by decide +kernel⟩
mutual
/-- each tuple within has a text ahead -/
def heads : PyData → Bool
  | .tuple [] => true
  | .tuple (.str w :: r) => headsAll r
  | .tuple _ => false
  | _ => true
def headsAll : List PyData → Bool
  | [] => true
  | d :: r => heads d && headsAll r
end
theorem headsAll_mem : ∀ {r : List PyData}, headsAll r = true → ∀ d ∈ r, heads d = true
  | [], _, _, hd => by cases hd
  | e :: r, h, d, hd => by
    rw [headsAll, Bool.and_eq_true] at h
    rcases List.mem_cons.mp hd with rfl | hd
    · exact h.1
    · exact headsAll_mem h.2 d hd
theorem headsAll_of : ∀ {r : List PyData}, (∀ d ∈ r, heads d = true) → headsAll r = true
  | [], _ => rfl
  | e :: r, h => by rw [headsAll, h e List.mem_cons_self, headsAll_of fun d hd => h d (List.mem_cons_of_mem _ hd)]; rfl
theorem heads_parts {ds : List PyData} (h : heads (.tuple ds) = true) : ∀ d ∈ ds, heads d = true := by
  cases ds with
  | nil => intro d hd; cases hd
  | cons x r =>
    cases x with
    | str w =>
      rw [heads] at h
      intro d hd
      rcases List.mem_cons.mp hd with rfl | hd
      · rfl
      · exact headsAll_mem h d hd
    | _ => cases h
def sizesT : List (Key × V) := [(.inr "source", .int 1), (.inr "every", .int 4), (.inr "gate", .int 3), (.inr "later", .int 3), (.inr "either", .int 3), (.inr "both", .int 3), (.inr "but", .int 3), (.inr "led", .int 5)]
theorem merge_new : ∀ (more kvs : List (Key × V)), ((kvs ++ more).map (·.1)).Nodup → mergeK kvs more = kvs ++ more
  | [], kvs, _ => by simp [mergeK]
  | (k, v) :: r, kvs, h => by
    have hn : valV kvs k = none := by
      unfold valV
      rw [Option.map_eq_none_iff, List.find?_eq_none]
      intro p hp z
      have z := of_decide_eq_true z
      rw [List.map_append, List.nodup_append] at h
      exact h.2.2 _ (List.mem_map.mpr ⟨p, hp, rfl⟩) _ List.mem_cons_self z
    show mergeK (putK kvs k v) r = _
    rw [putK_new _ hn, merge_new r (kvs ++ [(k, v)]) (by rw [List.append_assoc]; exact h), List.append_assoc]
    rfl
theorem sizes_nodup : (sizesT.map (·.1)).Nodup := by decide +kernel
theorem get_size (w : Str) : (valV sizesT (.inr w)).getD (.int 0) = .int (sizeW w : Nat) := by
  unfold sizeW sizesT
  by_cases h1 : w = "source"
  · subst h1; rfl
  by_cases h2 : w = "every"
  · subst h2; rfl
  by_cases h3 : w = "gate"
  · subst h3; rfl
  by_cases h4 : w = "later"
  · subst h4; rfl
  by_cases h5 : w = "either"
  · subst h5; rfl
  by_cases h6 : w = "both"
  · subst h6; rfl
  by_cases h7 : w = "but"
  · subst h7; rfl
  by_cases h8 : w = "led"
  · subst h8; rfl
  have e : ∀ x : Str, w ≠ x → ¬ (Sum.inr x : Key) = Sum.inr w := fun x hx z => hx (Sum.inr.inj z).symm
  rw [if_neg h1, if_neg h2, if_neg h3, if_neg h4, if_neg h5, if_neg h6, if_neg h7, if_neg h8]
  rw [valV_neg (e _ h1), valV_neg (e _ h2), valV_neg (e _ h3), valV_neg (e _ h4), valV_neg (e _ h5), valV_neg (e _ h6), valV_neg (e _ h7), valV_neg (e _ h8)]
  rfl
def places6 (a0 a1 a2 a3 a4 a5 : Addr) : List (Key × V) := [(.inr "source", .ref a0), (.inr "every", .ref a1), (.inr "gate", .ref a2), (.inr "later", .ref a3), (.inr "either", .ref a4), (.inr "both", .ref a5)]
def places2 (b0 b1 : Addr) : List (Key × V) := [(.inr "but", .ref b0), (.inr "led", .ref b1)]
theorem merge_6 (a0 a1 a2 a3 a4 a5 : Addr) : mergeK [] (places6 a0 a1 a2 a3 a4 a5) = places6 a0 a1 a2 a3 a4 a5 :=
  merge_new _ [] (show ([.inr "source", .inr "every", .inr "gate", .inr "later", .inr "either", .inr "both"] : List Key).Nodup by decide +kernel)
theorem merge_2 (b0 b1 : Addr) : mergeK [] (places2 b0 b1) = places2 b0 b1 := merge_new _ [] (show ([.inr "but", .inr "led"] : List Key).Nodup by decide +kernel)
theorem merge_8 (a0 a1 a2 a3 a4 a5 b0 b1 : Addr) : mergeK (places6 a0 a1 a2 a3 a4 a5) (places2 b0 b1) = places6 a0 a1 a2 a3 a4 a5 ++ places2 b0 b1 :=
  merge_new _ _ (show ([.inr "source", .inr "every", .inr "gate", .inr "later", .inr "either", .inr "both", .inr "but", .inr "led"] : List Key).Nodup by decide +kernel)
theorem merge_sizes : mergeK [] sizesT = sizesT := merge_new _ [] sizes_nodup
theorem get_place {H : Hp} {a0 a1 a2 a3 a4 a5 b0 b1 : Addr} (h0 : H a0 = some (.tup [])) (h1 : H a1 = some (.tup [.int 3])) (h2 : H a2 = some (.tup [.int 2])) (h3 : H a3 = some (.tup [.int 2])) (h4 : H a4 = some (.tup [.int 1, .int 2])) (h5 : H a5 = some (.tup [.int 1, .int 2]))
    (h6 : H b0 = some (.tup [.int 1, .int 2])) (h7 : H b1 = some (.tup [.int 1, .int 3])) {w : Str} (hw : sizeW w ≠ 0) : ∃ a, valV (places6 a0 a1 a2 a3 a4 a5 ++ places2 b0 b1) (.inr w) = some (.ref a) ∧ H a = some (.tup ((placesW w).map fun i => V.int (i : Nat))) := by
  obtain ⟨p1, p2, p3, p4, p5, p6, p7, p8⟩ := places_eq
  rcases eight hw with rfl | rfl | rfl | rfl | rfl | rfl | rfl | rfl
  · exact ⟨a0, rfl, by rw [p1]; exact h0⟩
  · exact ⟨a1, rfl, by rw [p2]; exact h1⟩
  · exact ⟨a2, rfl, by rw [p3]; exact h2⟩
  · exact ⟨a3, rfl, by rw [p4]; exact h3⟩
  · exact ⟨a4, rfl, by rw [p5]; exact h4⟩
  · exact ⟨a5, rfl, by rw [p6]; exact h5⟩
  · exact ⟨b0, rfl, by rw [p7]; exact h6⟩
  · exact ⟨b1, rfl, by rw [p8]; exact h7⟩
theorem places_lt {w : Str} (hw : sizeW w ≠ 0) : ∀ i ∈ placesW w, i < sizeW w := by
  obtain ⟨s1, s2, s3, s4, s5, s6, s7, s8⟩ := size_eq
  obtain ⟨p1, p2, p3, p4, p5, p6, p7, p8⟩ := places_eq
  rcases eight hw with rfl | rfl | rfl | rfl | rfl | rfl | rfl | rfl
  · rw [s1, p1]; decide
  · rw [s2, p2]; decide
  · rw [s3, p3]; decide
  · rw [s4, p4]; decide
  · rw [s5, p5]; decide
  · rw [s6, p6]; decide
  · rw [s7, p7]; decide
  · rw [s8, p8]; decide
theorem places_few (w : Str) : (placesW w).length ≤ 2 := by
  unfold placesW
  repeat' split
  all_goals simp
theorem sum_cast (es : List PyData) : (es.map fun e => ((countN e : Nat) : Int)).sum = (((es.map countN).sum : Nat) : Int) := by
  induction es with
  | nil => rfl
  | cons e r ih =>
    simp only [List.map_cons, List.sum_cons, ih]
    omega
theorem dp_tup {H : Hp} {v : V} {ds : List PyData} (h : Dp K H v (.tuple ds)) : ∃ a xs, v = .ref a ∧ SqT K H a xs ∧ DpAll K H xs ds := by
  cases h with
  | tup h a => exact ⟨_, _, rfl, h, a⟩
def spCounted (K : PySem.W.Frag) (n : Nat) : Sp := fun vs H Q _ => ∃ (v : V) (d : PyData), vs = [v] ∧ Dp K H v d ∧ fine d = true ∧ heads d = true ∧ PyData.depth d < n ∧ ∀ H', Ex H H' → Q (.int (countN d : Nat)) H'
theorem step__law_counted {f : Addr} {fd : FuncData} (F : Fun K "_law_counted" "_law_counted" s__law_counted f fd) (B : Blt mg) {n k : Nat} (hk : 2 ≤ k) (c__law_right : Dn P w K mg base 2 "_law_right" (spRight K)) (c__law_counted : Dn P w K mg base k "_law_counted" (spCounted K n)) :
    FnOk P w K mg base CX0 (k + 1) f fd ["_law_beat_here"] (spCounted K (n + 1)) := by
  have nd := sc__law_counted.nd
  refine F.ok sc__law_counted (fun vs H Q E h => ?_) (fun cdv A outer s H vs Q E hr h => ?_)
  · obtain ⟨v, d, rfl, _⟩ := h
    rfl
  · obtain ⟨v, d, rfl, hd, hf, hh, hn, q⟩ := h
    have hu := hu_of hr
    refine ⟨_, 
    (pss_cons (ps_set (i := 1) nd rfl (Or.inl rfl) (pe_disp (pps_cons pe_str (pe_tupN pa_nil) (pps_cons pe_str (pe_tupN (pa_cons pe_int pa_nil)) (pps_cons pe_str (pe_tupN (pa_cons pe_int pa_nil)) (pps_cons pe_str (pe_tupN (pa_cons pe_int pa_nil)) (pps_cons pe_str (pe_tupN (pa_cons pe_int (pa_cons pe_int pa_nil))) (pps_cons pe_str (pe_tupN (pa_cons pe_int (pa_cons pe_int pa_nil))) pps_nil)))))) (by rfl) (by rfl) (fun z => by cases z) (by decide)))
    (pss_cons (ps_expr (pe_bm PySem.F.plainAttrs_dict PySem.F.slot_dict_update PySem.F.type_dict_update mt_dupdate (pv 1) (pa_cons (pe_disp (pps_cons pe_str (pe_tupN (pa_cons pe_int (pa_cons pe_int pa_nil))) (pps_cons pe_str (pe_tupN (pa_cons pe_int (pa_cons pe_int pa_nil))) pps_nil)) (by rfl) (by rfl) (fun z => by cases z) (by decide)) pa_nil)))
    (pss_cons (ps_set (i := 2) nd rfl (Or.inl rfl) (pe_disp (pps_cons pe_str pe_int (pps_cons pe_str pe_int (pps_cons pe_str pe_int (pps_cons pe_str pe_int (pps_cons pe_str pe_int (pps_cons pe_str pe_int (pps_cons pe_str pe_int (pps_cons pe_str pe_int pps_nil)))))))) (by rfl) (by rfl) (fun z => by cases z) (by decide)))
    (pss_cons (ps_if (PW.pt (pw_or (pt_not (pt_val (pe_callB (isiD (K := K) rfl) (by rfl) B.isinstance bt_isinstance (pa_cons (pv 0) (pa_cons (pe_bltn (v := .ty "tuple") (u := Value.type "tuple") (by rfl) B.tuple bt_tuple rfl) pa_nil))))) (pw_or (pt_cmpR (eqD (K := K) rfl hr.units) (pv 0) (pe_tupN pa_nil) (nomark _)) (pw_or (pt_cmpR op_ne (pe_callB (lenK (K := K) rfl) (by rfl) B.len PySem.boot_len (pa_cons (pv 0) pa_nil)) (pe_dget2 hu (pv 2) (pe_ix (ixt (K := K) rfl) (pv 0) pe_int (fun _ _ => rfl)) pe_int (by first | exact ⟨rfl, rfl, rfl, rfl⟩)) (nomark _)) (pw_or1 (pt_not (pt_val (pe_d c__law_right hr (by omega) passL (by rfl) (pa_cons (pv 0) pa_nil))))))))) (pss_one (ps_ret pe_int)) pss_nil)
    (pss_one (ps_ret (pe_op op_add pe_int (pe_callB (sumK (K := K) rfl rfl) (by rfl) B.sum bt_sum (pa_cons (pe_lc (own := [("_law_place", 3)]) (g := gName 3) rfl nd (pi_tup (pe_dget hu (pv 1) (pe_ix (ixt (K := K) rfl) (pv 0) pe_int (fun _ _ => rfl)) (fun _ _ => rfl))) (blkOk_by (N := ["_law_beat_here", "_law_places", "_law_sizes", "_law_place"]) (sc := defScope s__law_counted) (by decide +kernel)) (fun _ _ _ _ _ => pg_name (i := 3) nd rfl (Or.inl rfl)) (fun _ _ _ _ _ => pts_nil) (fun _ _ _ _ _ => (pe_d c__law_counted hr (by omega) passL (by rfl) (pa_cons (pe_ix (ixt (K := K) rfl) (pv 0) (pv 3) (fun _ _ => rfl)) pa_nil)))) pa_nil))))))))), ?_⟩
    try dsimp only [cxOf, Cx.nox, Cx.wish]
    walk_at "norm"
    intro p np
    have t1 : ∀ n, n ≤ 100000 → n ≤ sizeLine := fun n h => Nat.le_trans h (by decide)
    have eA : Ex H (upd H p (.dK [])) := Ex.new np
    have hA : (upd H p (.dK [])) p = some (.dK []) := upd_same
    generalize upd H p (.dK []) = HA at eA hA ⊢
    refine ⟨t1 0 (by decide), nT_intro fun a0 H0 n0 e0 h0 => ?_⟩
    refine ⟨t1 1 (by decide), nT_intro fun a1 H1 n1 e1 h1 => ?_⟩
    refine ⟨t1 1 (by decide), nT_intro fun a2 H2 n2 e2 h2 => ?_⟩
    refine ⟨t1 1 (by decide), nT_intro fun a3 H3 n3 e3 h3 => ?_⟩
    refine ⟨t1 2 (by decide), nT_intro fun a4 H4 n4 e4 h4 => ?_⟩
    refine ⟨t1 2 (by decide), nT_intro fun a5 H5 n5 e5 h5 => ?_⟩
    have eA5 : Ex HA H5 := e0.trans (e1.trans (e2.trans (e3.trans (e4.trans e5))))
    refine ⟨eA5 _ _ hA, places6 a0 a1 a2 a3 a4 a5, rfl, (show 6 ≤ 15 by decide), ?_⟩
    rw [merge_6]
    have eP : Ex H (upd H5 p (.dK (places6 a0 a1 a2 a3 a4 a5))) := Ex.mut (eA.trans eA5) np
    have hP : (upd H5 p (.dK (places6 a0 a1 a2 a3 a4 a5))) p = some (.dK (places6 a0 a1 a2 a3 a4 a5)) := upd_same
    have pne : ∀ {b : Addr} {xs : List V}, H5 b = some (.tup xs) → (upd H5 p (.dK (places6 a0 a1 a2 a3 a4 a5))) b = some (.tup xs) := fun {b xs} hb => by
      rw [upd_ne (fun z => by rw [z, eA5 _ _ hA] at hb; cases hb)]
      exact hb
    have g0 := pne (e5 _ _ (e4 _ _ (e3 _ _ (e2 _ _ (e1 _ _ h0)))))
    have g1 := pne (e5 _ _ (e4 _ _ (e3 _ _ (e2 _ _ h1))))
    have g2 := pne (e5 _ _ (e4 _ _ (e3 _ _ h2)))
    have g3 := pne (e5 _ _ (e4 _ _ h3))
    have g4 := pne (e5 _ _ h4)
    have g5 := pne h5
    generalize upd H5 p (.dK (places6 a0 a1 a2 a3 a4 a5)) = HP at eP hP g0 g1 g2 g3 g4 g5 ⊢
    refine ⟨_, rfl, .inr (.inr (.inl ⟨rfl, .inl ⟨_, hP⟩⟩)), ?_⟩
    intro p2 np2
    have eB : Ex HP (upd HP p2 (.dK [])) := Ex.new np2
    have hB : (upd HP p2 (.dK [])) p2 = some (.dK []) := upd_same
    generalize upd HP p2 (.dK []) = HB at eB hB ⊢
    refine ⟨t1 2 (by decide), nT_intro fun b0 H6 n6 e6 h6 => ?_⟩
    refine ⟨t1 2 (by decide), nT_intro fun b1 H7 n7 e7 h7 => ?_⟩
    refine ⟨e7 _ _ (e6 _ _ hB), places2 b0 b1, rfl, (show 2 ≤ 15 by decide), ?_⟩
    rw [merge_2]
    have eB7 : Ex HP H7 := eB.trans (e6.trans e7)
    have e8 : Ex HP (upd H7 p2 (.dK (places2 b0 b1))) := Ex.mut eB7 np2
    have hB8 : (upd H7 p2 (.dK (places2 b0 b1))) p2 = some (.dK (places2 b0 b1)) := upd_same
    have g6 : (upd H7 p2 (.dK (places2 b0 b1))) b0 = some (.tup [.int 1, .int 2]) := by
      have z := e7 _ _ h6
      rw [upd_ne (fun y => by rw [y, e7 _ _ (e6 _ _ hB)] at z; cases z)]
      exact z
    have g7 : (upd H7 p2 (.dK (places2 b0 b1))) b1 = some (.tup [.int 1, .int 3]) := by
      rw [upd_ne (fun y => by rw [y, e7 _ _ (e6 _ _ hB)] at h7; cases h7)]
      exact h7
    generalize upd H7 p2 (.dK (places2 b0 b1)) = H8 at e8 hB8 g6 g7 ⊢
    have hpp : p ≠ p2 := ne_of_none hP np2
    refine ⟨p, p2, _, _, rfl, rfl, e8 _ _ hP, hB8, hpp, t1 8 (by decide), ?_⟩
    rw [merge_8]
    have e9 : Ex H (upd H8 p (.dK (places6 a0 a1 a2 a3 a4 a5 ++ places2 b0 b1))) := Ex.mut (eP.trans e8) np
    have hP9 : (upd H8 p (.dK (places6 a0 a1 a2 a3 a4 a5 ++ places2 b0 b1))) p = some (.dK (places6 a0 a1 a2 a3 a4 a5 ++ places2 b0 b1)) := upd_same
    have pne9 : ∀ {b : Addr} {xs : List V}, H8 b = some (.tup xs) → (upd H8 p (.dK (places6 a0 a1 a2 a3 a4 a5 ++ places2 b0 b1))) b = some (.tup xs) := fun {b xs} hb => by
      rw [upd_ne (fun z => by rw [z, e8 _ _ hP] at hb; cases hb)]
      exact hb
    have g0 := pne9 (e8 _ _ g0)
    have g1 := pne9 (e8 _ _ g1)
    have g2 := pne9 (e8 _ _ g2)
    have g3 := pne9 (e8 _ _ g3)
    have g4 := pne9 (e8 _ _ g4)
    have g5 := pne9 (e8 _ _ g5)
    have g6 := pne9 g6
    have g7 := pne9 g7
    generalize upd H8 p (.dK (places6 a0 a1 a2 a3 a4 a5 ++ places2 b0 b1)) = H9 at e9 hP9 g0 g1 g2 g3 g4 g5 g6 g7 ⊢
    intro p3 np3
    refine ⟨upd_same, sizesT, rfl, by decide, ?_⟩
    rw [merge_sizes]
    have eZ : Ex H9 (upd (upd H9 p3 (.dK [])) p3 (.dK sizesT)) := Ex.mut (Ex.new np3) np3
    have hZ : (upd (upd H9 p3 (.dK [])) p3 (.dK sizesT)) p3 = some (.dK sizesT) := upd_same
    generalize upd (upd H9 p3 (.dK [])) p3 (.dK sizesT) = HZ at eZ hZ ⊢
    have hP := eZ _ _ hP9
    have eHZ : Ex H HZ := e9.trans eZ
    have hd := eHZ.dp hd
    refine ⟨_, rfl, v, "tuple", d, rfl, hd, rfl, _, rfl, ?_⟩
    cases d with
    | tuple ds =>
      rw [show isA "tuple" (.tuple ds) = true from by simp [isA_tab]]
      refine iteF ?_
      have hsh : SeqAt.shaped (.tuple ds) = true := by
        have := fine_fin hf
        unfold finB dGood at this
        simp only [Bool.and_eq_true] at this
        exact this.1.1.1
      refine ⟨_, rfl, t1 0 (by decide), nT_intro fun z HY nz ez hz => ?_⟩
      refine ⟨.tuple ds, .tuple [], ez.dp hd, .tup (.of hz) .nil, hsh, shaped_iff.mpr ⟨by simp [PyData.canLay0, PyData.canLayAll0], by simp [PyData.depth, PyData.depthAll]⟩, ?_⟩
      rw [eqv_nilT]
      refine ⟨_, rfl, ?_⟩
      have eHY : Ex H HY := eHZ.trans ez
      have hd := ez.dp hd
      cases ds with
      | nil =>
        refine iteT ?_
        refine iteT ?_
        have q := q _ eHY
        rw [countN_step] at q
        exact q
      | cons x r =>
        refine iteF ?_
        cases x with
        | str w =>
          obtain ⟨a, xs, rfl, hs, ha⟩ := dp_tup hd
          have hlen := dpAll_len ha
          obtain ⟨v0, i0, d0⟩ := dpAll_atD ha 0 (by simp)
          have d0 : Dp K HY v0 (.str w) := d0
          cases d0
          have hZ2 := ez _ _ hZ
          refine ⟨_, rfl, a, xs, rfl, .inr hs, ?_⟩
          refine ⟨_, rfl, p3, rfl, .inl ⟨_, .inl hZ2⟩, ?_⟩
          refine ⟨_, rfl, a, xs, _, _, rfl, rfl, hs, i0, ?_⟩
          refine ⟨_, DGet.k (k := Sum.inr w) hZ2, ?_⟩
          rw [get_size]
          refine ⟨rfl, _, rfl, ?_⟩
          rw [hlen]
          have hin : innerOf (.tuple (.str w :: r)) = if sizeW w = (PyData.str w :: r).length ∧ rightT (.str w :: r) = true then some ((placesW w).map (atD (.str w :: r))) else none := inner_word
          have none99 : innerOf (.tuple (.str w :: r)) = none → ∀ H', Ex H H' → Q (.int 99) H' := fun hno H' e' => by
            have q := q H' e'
            rw [countN_step, hno] at q
            exact q
          refine ite2 (fun c => ?_) (fun c => ?_)
          · have c := of_bnot c
            refine iteT ?_
            refine none99 ?_ _ eHY
            rw [hin]
            exact if_neg fun z => c (congrArg V.int (by rw [z.1]))
          have c : (((PyData.str w :: r).length : Nat) : Int) = (sizeW w : Nat) := V.int.inj (not_bnot c)
          have hsz : sizeW w = (PyData.str w :: r).length := by omega
          have hsm : (PyData.str w :: r).all textSmall = true := by
            have := fine_fin hf
            unfold finB dGood at this
            simp only [Bool.and_eq_true] at this
            exact this.1.2
          refine ⟨_, rfl, a, xs, w, r, rfl, hs, ha, hsz, hsm, fun HX ex => ?_⟩
          have eHX : Ex H HX := eHY.trans ex
          refine ⟨_, rfl, ?_⟩
          refine ite2 (fun c2 => ?_) (fun c2 => ?_)
          · refine none99 ?_ _ eHX
            rw [hin]
            have z0 : ¬ (sizeW w = (PyData.str w :: r).length ∧ rightT (.str w :: r) = true) := fun z => by
              rw [z.2] at c2
              cases c2
            exact if_neg z0
          have hrt : rightT (.str w :: r) = true := by
            cases hb : rightT (.str w :: r) with
            | true => rfl
            | false => rw [hb] at c2; exact absurd rfl c2
          have hin2 : innerOf (.tuple (.str w :: r)) = some ((placesW w).map (atD (.str w :: r))) := by rw [hin]; exact if_pos ⟨hsz, hrt⟩
          have q := fun H' e => q H' e
          rw [countN_step, hin2] at q
          have hs := ex.sqT hs
          have ha := ex.dpAll ha
          have eZX : Ex HZ HX := ez.trans ex
          have e9X : Ex H9 HX := eZ.trans eZX
          obtain ⟨b, hb1, hb2⟩ := get_place (e9X _ _ g0) (e9X _ _ g1) (e9X _ _ g2) (e9X _ _ g3) (e9X _ _ g4) (e9X _ _ g5) (e9X _ _ g6) (e9X _ _ g7) (w := w) (by rw [hsz]; exact Nat.succ_ne_zero _)
          have hPX := ex _ _ (ez _ _ hP)
          refine ⟨_, rfl, _, rfl, a, xs, _, _, rfl, rfl, hs, i0, ?_⟩
          refine ⟨p, .ref b, rfl, hb1 ▸ DGet.k (k := Sum.inr w) hPX, b, rfl, ⟨_, .of hb2⟩, ?_⟩
          have hw0 : sizeW w ≠ 0 := by rw [hsz]; exact Nat.succ_ne_zero _
          have hpl := places_lt hw0
          have hpf := places_few w
          refine lc_all (((placesW w).map (atD (.str w :: r))).map fun e => V.int (countN e : Nat)) (by simp) (Goes.over (.of hb2)) (by rw [List.length_map]; omega) ?_ ?_
          · rintro i x H' hi e' hx' R hR
            rw [List.length_map] at hi
            obtain ⟨pl, hpl0⟩ : ∃ pl, (placesW w)[i]? = some pl := ⟨_, List.getElem?_eq_getElem hi⟩
            rw [List.getElem?_map, hpl0] at hx'
            cases hx'
            have hlt : pl < (PyData.str w :: r).length := by
              have := hpl pl (List.mem_of_getElem? hpl0)
              omega
            obtain ⟨v1, i1, d1⟩ := dpAll_atD ha pl hlt
            refine ⟨rfl, ?_⟩
            refine ⟨_, rfl, _, rfl, a, xs, _, _, rfl, rfl, e'.sqT hs, i1, ?_⟩
            refine ⟨v1, _, rfl, e'.dp d1, fine_parts hf _ (atD_mem hlt), heads_parts hh _ (atD_mem hlt), ?_, fun H5 e5 => ?_⟩
            · have hdp : PyData.depth (atD (.str w :: r) pl) < PyData.depth (.tuple (.str w :: r)) := depth_parts (d := .tuple (.str w :: r)) _ (atD_mem hlt)
              omega
            · exact hR _ _ (by rw [List.getElem?_map, List.getElem?_map, hpl0]; rfl) e5
          intro L HL nL eL hL
          refine ⟨L, ((placesW w).map (atD (.str w :: r))).map fun e => ((countN e : Nat) : Int), rfl, .of (by rw [hL]; simp only [List.map_map]; rfl), _, _, rfl, rfl, ?_⟩
          rw [sum_cast]
          exact q _ (eHX.trans eL)
        | _ => cases hh
    | dict _ => cases hd
    | _ =>
      have q := q _ eHZ
      rw [countN_step] at q
      simp only [isA_tab]
      first
        | exact iteT (iteT q)
        | exact iteT q
        | exact q
theorem ok__law_counteds {f : Addr} {fd : FuncData} (F : Fun K "_law_counted" "_law_counted" s__law_counted f fd) (B : Blt mg) (hm : mg "_law_counted" = some (.ref f)) (hk : PySem.W.keepIn K (.ref f) = true) (hb : Binds K fd ["_law_beat_here"] [])
    (c__law_right : Dn P w K mg base 2 "_law_right" (spRight K)) : ∀ n, Dn P w K mg base (n + 2) "_law_counted" (spCounted K n)
  | 0 => .of (FnOk.imp never_ok fun _ _ _ _ h => by
      obtain ⟨_, _, _, _, _, _, h0, _⟩ := h
      omega) hm hk hb
  | n + 1 => .of0 (step__law_counted F B (by omega) c__law_right (ok__law_counteds F B hm hk hb c__law_right n)) hm hk hb


theorem heads_word {w : Str} {r : List PyData} (h : ∀ d ∈ r, heads d = true) : heads (.tuple (.str w :: r)) = true := by
  rw [heads]
  exact headsAll_of h
theorem data_heads : ∀ b : Beat, heads b.data = true
  | .source => heads_word fun d hd => (nomatch hd)
  | .every n k b => heads_word fun d hd => by
    have := data_heads b
    simp only [List.mem_cons, List.not_mem_nil, or_false] at hd
    rcases hd with rfl | rfl | rfl
    · rfl
    · rfl
    · exact this
  | .gate bits b => heads_word fun d hd => by
    have := data_heads b
    simp only [List.mem_cons, List.not_mem_nil, or_false] at hd
    rcases hd with rfl | rfl
    · rfl
    · exact this
  | .later m b => heads_word fun d hd => by
    have := data_heads b
    simp only [List.mem_cons, List.not_mem_nil, or_false] at hd
    rcases hd with rfl | rfl
    · rfl
    · exact this
  | .two w a b => heads_word fun d hd => by
    have h1 := data_heads a
    have h2 := data_heads b
    simp only [List.mem_cons, List.not_mem_nil, or_false] at hd
    rcases hd with rfl | rfl
    · exact h1
    · exact h2
  | .led a many b first => heads_word fun d hd => by
    have h1 := data_heads a
    have h2 := data_heads b
    simp only [List.mem_cons, List.not_mem_nil, or_false] at hd
    rcases hd with rfl | rfl | rfl | rfl
    · exact h1
    · rfl
    · exact h2
    · rfl
theorem count_beat {b : Beat} (h : b.ok) : (((countN b.data : Nat) : Int) ≤ 30) ↔ b.size ≤ 30 := by
  have h1 := count_is b.data
  rw [beat_exact h, decide_eq_decide] at h1
  rw [← h1]
  omega
theorem data_narrow : ∀ b : Beat, narrow b.data = true
  | .source => by simp [Beat.data, narrow, narrowAll]
  | .every n k b => by simp [Beat.data, narrow, narrowAll, data_narrow b]
  | .gate bits b => by simp [Beat.data, narrow, narrowAll, data_narrow b]
  | .later m b => by simp [Beat.data, narrow, narrowAll, data_narrow b]
  | .two w a b => by simp [Beat.data, narrow, narrowAll, data_narrow a, data_narrow b]
  | .led a many b first => by simp [Beat.data, narrow, narrowAll, data_narrow a, data_narrow b]
theorem note_codes : ∀ b : Beat, ∀ c ∈ noteL b, c < 128 := by
  have hf : ∀ n, ∀ c ∈ figs n, c < 128 := fun n c hc => by
    have := (figs_all n).1 c hc
    unfold isFig at this
    simp only [Bool.and_eq_true, decide_eq_true_eq] at this
    omega
  have hw : ∀ x : List Nat, x.all isLet = true → ∀ c ∈ x, c < 128 := fun x hx c hc => by
    have := List.all_eq_true.mp hx c hc
    unfold isLet at this
    simp only [Bool.and_eq_true, decide_eq_true_eq] at this
    omega
  intro b
  induction b with
  | source => exact hw _ (by decide +kernel)
  | every n k b ih =>
    intro c hc
    simp only [noteL, List.mem_cons, List.mem_append, List.not_mem_nil, or_false] at hc
    rcases hc with rfl | hc | rfl | hc | rfl | hc | rfl | hc | rfl
    · decide
    · exact hw _ (by decide +kernel) c hc
    · decide
    · exact hf _ c hc
    · decide
    · exact hf _ c hc
    · decide
    · exact ih c hc
    · decide
  | gate bits b ih =>
    intro c hc
    simp only [noteL, List.mem_cons, List.mem_append, List.not_mem_nil, or_false] at hc
    rcases hc with rfl | hc | rfl | hc | rfl | hc | rfl
    · decide
    · exact hw _ (by decide +kernel) c hc
    · decide
    · obtain ⟨b, _, rfl⟩ := List.mem_map.mp hc
      cases b <;> decide
    · decide
    · exact ih c hc
    · decide
  | later m b ih =>
    intro c hc
    simp only [noteL, List.mem_cons, List.mem_append, List.not_mem_nil, or_false] at hc
    rcases hc with rfl | hc | rfl | hc | rfl | hc | rfl
    · decide
    · exact hw _ (by decide +kernel) c hc
    · decide
    · exact hf _ c hc
    · decide
    · exact ih c hc
    · decide
  | two w a b iha ihb =>
    intro c hc
    simp only [noteL, List.mem_cons, List.mem_append, List.not_mem_nil, or_false] at hc
    rcases hc with rfl | hc | rfl | hc | rfl | hc | rfl
    · decide
    · exact hw _ (two_let w) c hc
    · decide
    · exact iha c hc
    · decide
    · exact ihb c hc
    · decide
  | led a many b first iha ihb =>
    intro c hc
    simp only [noteL, List.mem_cons, List.mem_append, List.not_mem_nil, or_false] at hc
    rcases hc with rfl | hc | rfl | hc | rfl | hc | rfl | hc | rfl | hc | rfl
    · decide
    · exact hw _ (by decide +kernel) c hc
    · decide
    · exact iha c hc
    · decide
    · exact hf _ c hc
    · decide
    · exact ihb c hc
    · decide
    · exact hf _ c hc
    · decide
theorem note_strOk (b : Beat) : PyData.strOk (noteS b) = true := by
  unfold PyData.strOk noteS
  simp only [List.all_toArray]
  refine List.all_eq_true.mpr fun c hc => ?_
  have := note_codes b c hc
  simp
  omega
theorem note_shaped (b : Beat) : SeqAt.shaped (.str (noteS b)) = true := shaped_iff.mpr ⟨by rw [PyData.canLay0]; exact note_strOk b, by simp [PyData.depth]⟩
/-- what the reader makes of a beat's text -/
theorem read_note {b : Beat} (h : b.ok) : beatR 31 (noteL b) 0 0 = if b.size ≤ 30 then some (b.data, (noteL b).length, b.size) else none := by
  have := reads_all b h 31 0 (noteL b) [] [] (by simp) (fun c hc => by cases hc) (by decide) (by decide)
  rw [List.length_nil] at this
  rw [this]
  unfold dueR
  rw [Nat.zero_add, Nat.zero_add]
theorem readD_note {b : Beat} (h : b.ok) : readD (noteL b) = if b.size ≤ 30 then some b.data else none := by
  unfold readD
  rw [read_note h]
  by_cases hs : b.size ≤ 30
  · rw [if_pos hs, if_pos hs]
    show (if (noteL b).length = (noteL b).length ∧ isBeatD b.data = true then some b.data else none) = some b.data
    exact if_pos ⟨rfl, by rw [beat_exact h]; exact decide_eq_true hs⟩
  · rw [if_neg hs, if_neg hs]
    rfl


/-! ### what is found a beat is a beat's data; both readers tell the same (k16) -/
theorem isWord_str {s : Str} {d : PyData} (h : isWord s d = true) : d = .str s := by
  cases d with
  | str a => rw [word_is] at h; exact congrArg PyData.str (eq_of_beq h)
  | _ => unfold isWord at h; simp [PyData.eqv] at h
theorem whole_int {lo hi : Int} {d : PyData} (h : isWhole lo hi d = true) : ∃ i, d = .int i ∧ lo ≤ i ∧ i ≤ hi := by
  cases d with
  | int i =>
    unfold isWhole at h
    rw [Bool.and_eq_true, decide_eq_true_eq, decide_eq_true_eq] at h
    exact ⟨i, rfl, h.1, h.2⟩
  | _ => cases h
theorem signs_bits {d : PyData} (h : areSigns d = true) : ∃ bits : List Bool, d = .str (bitsStr bits) ∧ 1 ≤ bits.length ∧ bits.length ≤ 12 := by
  cases d with
  | str s =>
    unfold areSigns at h
    rw [Bool.and_eq_true, Bool.and_eq_true, decide_eq_true_eq, decide_eq_true_eq] at h
    obtain ⟨⟨h1, h2⟩, h3⟩ := h
    have hl : s.cps.toList.length = s.length := Array.length_toList
    have key : ∀ l : List Nat, l.all signOk = true → ∃ bits : List Bool, l = bits.map bitC := by
      intro l
      induction l with
      | nil => exact fun _ => ⟨[], rfl⟩
      | cons c r ih =>
        intro hc
        rw [List.all_cons, Bool.and_eq_true] at hc
        obtain ⟨bits, hb⟩ := ih hc.2
        have : c = 48 ∨ c = 49 := by
          have := hc.1
          unfold signOk at this
          simpa using this
        rcases this with rfl | rfl
        · exact ⟨false :: bits, by rw [hb]; rfl⟩
        · exact ⟨true :: bits, by rw [hb]; rfl⟩
    obtain ⟨bits, hb⟩ := key _ h3
    have hs : s = bitsStr bits := str_ext (by rw [tl_bits]; exact hb)
    have hlb : bits.length = s.length := by rw [← hl, hb, List.length_map]
    exact ⟨bits, by rw [hs], by omega, by omega⟩
  | _ => cases h
theorem inner_head {ds es : List PyData} (h : innerT ds = some es) : ∃ w r, ds = .str w :: r := by
  cases ds with
  | nil => cases h
  | cons x r =>
    have a0 : atD (x :: r) 0 = x := rfl
    by_cases hw : ∃ w, x = .str w
    · obtain ⟨w, rfl⟩ := hw
      exact ⟨w, r, rfl⟩
    · exfalso
      have no : ∀ s : Str, isWord s x = false := fun s => by
        cases hb : isWord s x with
        | false => rfl
        | true => exact absurd ⟨s, isWord_str hb⟩ hw
      unfold innerT at h
      rw [a0] at h
      simp [no] at h
theorem right_of (r : List PyData) : rightT (.str "every" :: r) = isEvery (.str "every" :: r) ∧ rightT (.str "gate" :: r) = areSigns (atD (.str "gate" :: r) 1) ∧ rightT (.str "later" :: r) = isWhole 0 99 (atD (.str "later" :: r) 1) ∧
    rightT (.str "led" :: r) = (isWhole 0 9999 (atD (.str "led" :: r) 2) && isWhole 0 9999 (atD (.str "led" :: r) 4)) := by
  have a0 : ∀ (w : Str), atD (PyData.str w :: r) 0 = .str w := fun _ => rfl
  have f1 : isWord "every" (.str "every") = true := by rw [word_is]; decide +kernel
  have f2 : isWord "every" (.str "gate") = false := by rw [word_is]; decide +kernel
  have f3 : isWord "gate" (.str "gate") = true := by rw [word_is]; decide +kernel
  have f4 : isWord "every" (.str "later") = false := by rw [word_is]; decide +kernel
  have f5 : isWord "gate" (.str "later") = false := by rw [word_is]; decide +kernel
  have f6 : isWord "later" (.str "later") = true := by rw [word_is]; decide +kernel
  have f7 : isWord "every" (.str "led") = false := by rw [word_is]; decide +kernel
  have f8 : isWord "gate" (.str "led") = false := by rw [word_is]; decide +kernel
  have f9 : isWord "later" (.str "led") = false := by rw [word_is]; decide +kernel
  have f10 : isWord "led" (.str "led") = true := by rw [word_is]; decide +kernel
  unfold rightT
  refine ⟨?_, ?_, ?_, ?_⟩ <;> rw [a0] <;> simp only [f1, f2, f3, f4, f5, f6, f7, f8, f9, f10, if_true, Bool.false_eq_true, if_false]
theorem at_one {x y : PyData} {r : List PyData} : atD (x :: y :: r) 1 = y := rfl
theorem mem_sum {x : Nat} : ∀ {l : List Nat}, x ∈ l → x ≤ l.sum
  | y :: l, h => by
    rw [List.sum_cons]
    rcases List.mem_cons.mp h with rfl | h
    · omega
    · have := mem_sum h
      omega
theorem beat_of : ∀ (n : Nat) (d : PyData), countN d ≤ n → n ≤ 30 → ∃ b : Beat, b.ok ∧ d = b.data
  | 0, d, h, _ => by
    have hs := countN_step d
    cases hi : innerOf d with
    | none =>
      rw [hi] at hs
      have : countN d = 99 := hs
      omega
    | some es =>
      rw [hi] at hs
      have hs : countN d = 1 + (es.map countN).sum := hs
      omega
  | n + 1, d, h, hn => by
    have hs := countN_step d
    cases hi : innerOf d with
    | none =>
      rw [hi] at hs
      have : countN d = 99 := hs
      omega
    | some es =>
      rw [hi] at hs
      have hs : countN d = 1 + (es.map countN).sum := hs
      cases d with
      | tuple ds =>
        have hi : innerT ds = some es := hi
        obtain ⟨w, r, rfl⟩ := inner_head hi
        rw [inner_word] at hi
        split at hi
        · rename_i hc
          obtain ⟨hlen, hr⟩ := hc
          have hne : sizeW w ≠ 0 := by rw [hlen]; exact Nat.succ_ne_zero _
          obtain ⟨s1, s2, s3, s4, s5, s6, s7, s8⟩ := size_eq
          obtain ⟨p1, p2, p3, p4, p5, p6, p7, p8⟩ := places_eq
          have e := Option.some.inj hi
          have sub : ∀ x, x ∈ es → countN x ≤ n := fun x hx => by
            have := List.mem_map_of_mem (f := countN) hx
            have := mem_sum this
            omega
          obtain ⟨rt1, rt2, rt3, rt4⟩ := right_of r
          have nat : ∀ i : Int, 0 ≤ i → ∃ k : Nat, i = (k : Int) := fun i h => Int.eq_ofNat_of_zero_le h
          have two : ∀ v : Two, w = v.word → sizeW w = 3 → placesW w = [1, 2] → ∃ b : Beat, b.ok ∧ PyData.tuple (.str w :: r) = b.data := fun v hv hs3 hp3 => by
            rw [hs3] at hlen
            rw [hp3] at e
            match r, hlen with
            | [x, y], _ =>
              have e2 : es = [x, y] := e.symm
              obtain ⟨a, ha, rfl⟩ := beat_of n x (sub x (by rw [e2]; simp)) (by omega)
              obtain ⟨b, hb, rfl⟩ := beat_of n y (sub y (by rw [e2]; simp)) (by omega)
              exact ⟨.two v a b, ⟨ha, hb⟩, by rw [hv]; rfl⟩
          rcases eight hne with rfl | rfl | rfl | rfl | rfl | rfl | rfl | rfl
          · rw [s1] at hlen
            match r, hlen with
            | [], _ => exact ⟨.source, trivial, rfl⟩
          · rw [s2] at hlen
            rw [p2] at e
            rw [rt1] at hr
            match r, hlen with
            | [x, y, z], _ =>
              unfold isEvery at hr
              rw [Bool.and_eq_true] at hr
              obtain ⟨i, hi1, l1, l2⟩ := whole_int hr.1
              have hx : x = .int i := hi1
              subst hx
              obtain ⟨j, hj1, l3, l4⟩ := whole_int hr.2
              have hy : y = .int j := hj1
              subst hy
              have l4 : j ≤ i - 1 := l4
              obtain ⟨i, rfl⟩ := nat i (by omega)
              obtain ⟨j, rfl⟩ := nat j l3
              have e2 : es = [z] := e.symm
              obtain ⟨b, hb, rfl⟩ := beat_of n z (sub z (by rw [e2]; simp)) (by omega)
              exact ⟨.every i j b, ⟨by omega, by omega, by omega, hb⟩, rfl⟩
          · rw [s3] at hlen
            rw [p3] at e
            rw [rt2] at hr
            match r, hlen with
            | [x, y], _ =>
              obtain ⟨bits, hx, l1, l2⟩ := signs_bits hr
              have hx : x = .str (bitsStr bits) := hx
              subst hx
              have e2 : es = [y] := e.symm
              obtain ⟨b, hb, rfl⟩ := beat_of n y (sub y (by rw [e2]; simp)) (by omega)
              exact ⟨.gate bits b, ⟨l1, l2, hb⟩, rfl⟩
          · rw [s4] at hlen
            rw [p4] at e
            rw [rt3] at hr
            match r, hlen with
            | [x, y], _ =>
              obtain ⟨i, hx, l1, l2⟩ := whole_int hr
              have hx : x = .int i := hx
              subst hx
              obtain ⟨i, rfl⟩ := nat i l1
              have e2 : es = [y] := e.symm
              obtain ⟨b, hb, rfl⟩ := beat_of n y (sub y (by rw [e2]; simp)) (by omega)
              exact ⟨.later i b, ⟨by omega, hb⟩, rfl⟩
          · exact two .either rfl s5 p5
          · exact two .both rfl s6 p6
          · exact two .but rfl s7 p7
          · rw [s8] at hlen
            rw [p8] at e
            rw [rt4] at hr
            match r, hlen with
            | [x, y, z, u], _ =>
              rw [Bool.and_eq_true] at hr
              obtain ⟨i, hi1, l1, l2⟩ := whole_int hr.1
              have hy : y = .int i := hi1
              subst hy
              obtain ⟨j, hj1, l3, l4⟩ := whole_int hr.2
              have hu : u = .int j := hj1
              subst hu
              obtain ⟨i, rfl⟩ := nat i l1
              obtain ⟨j, rfl⟩ := nat j l3
              have e2 : es = [x, z] := e.symm
              obtain ⟨a, ha, rfl⟩ := beat_of n x (sub x (by rw [e2]; simp)) (by omega)
              obtain ⟨b, hb, rfl⟩ := beat_of n z (sub z (by rw [e2]; simp)) (by omega)
              exact ⟨.led a i b j, ⟨by omega, by omega, ha, hb⟩, rfl⟩
        · cases hi
      | _ => cases hi
theorem beat_from {d : PyData} (h : isBeatD d = true) : ∃ b : Beat, b.ok ∧ d = b.data ∧ b.size ≤ 30 := by
  have hc := count_is d
  rw [h, decide_eq_true_eq] at hc
  obtain ⟨b, hb, rfl⟩ := beat_of 30 d hc (Nat.le_refl _)
  rw [beat_exact hb, decide_eq_true_eq] at h
  exact ⟨b, hb, rfl, h⟩
/-- what the law's reader makes of a text -/
def dueL (T : List Nat) : Option PyData := (parsedR 60 T 0).bind fun x => if x.2 = T.length ∧ isBeatD (numD x.1) = true then some (numD x.1) else none
theorem due_note {b : Beat} (h : b.ok) (hs : b.size ≤ 30) : dueL (noteL b) = some b.data := by
  have hp := (parses_all b 60 (noteL b) (by omega)).run 0 [] (by rw [List.drop_zero, List.append_nil]) (fun c hc => by cases hc)
  unfold dueL
  rw [hp, Nat.zero_add]
  show (if (noteL b).length = (noteL b).length ∧ isBeatD (numD (strE b)) = true then _ else _) = _
  rw [num_strE, if_pos ⟨rfl, by rw [beat_exact h]; exact decide_eq_true hs⟩]
/-- both readers tell the same -/
theorem due_read (T : List Nat) : dueL T = readD T := by
  have h1 : ∀ d, dueL T = some d → readD T = some d := fun d hd => by
    unfold dueL at hd
    obtain ⟨⟨e, q⟩, hp, h2⟩ := Option.bind_eq_some_iff.mp hd
    split at h2
    · rename_i hc
      cases h2
      obtain ⟨b, hb, hbd, hs⟩ := beat_from hc.2
      have ha := parsed_sound T 60 0 e q hp
      have hq : q = T.length := hc.1
      rw [hq] at ha
      have hT : T = noteL b := by
        rw [← text_beat b, ← hbd, text_num]
        exact ha.whole
      rw [hbd, hT, readD_note hb, if_pos hs]
    · cases h2
  have h2 : ∀ d, readD T = some d → dueL T = some d := fun d hd => by
    unfold readD at hd
    obtain ⟨⟨e, q, m⟩, hp, h2⟩ := Option.bind_eq_some_iff.mp hd
    split at h2
    · rename_i hc
      cases h2
      obtain ⟨b, hb, hbd, hs⟩ := beat_from hc.2
      have ha := beat_sound T 31 0 0 e q m hp
      have hq : q = T.length := hc.1
      rw [hq] at ha
      have hbd : e = b.data := hbd
      have hT : T = noteL b := by
        rw [← text_beat b, ← hbd]
        exact ha.whole
      rw [hT, due_note hb hs]
      exact congrArg some hbd.symm
    · cases h2
  cases hd : dueL T with
  | some d => exact (h1 d hd).symm
  | none =>
    cases hr : readD T with
    | none => rfl
    | some d => rw [h2 d hr] at hd; cases hd


/-! ### what a text's parse is like (k16) -/
def Runs (R : Nat) (T : List Nat) : Prop := ∀ a w b, T = a ++ (w ++ b) → (∀ c ∈ w, isFig c = true) → w.length ≤ R
structure TextOk (T : List Nat) : Prop where
  code : ∀ c ∈ T, c < 128
  len : T.length ≤ 4300
  runs : Runs 640 T
def leafOk (w : List Nat) : Bool := w.all (fun c => decide (c < 128)) && decide (w.length ≤ 4300) && (!(w.all isFig) || decide (w.length ≤ 640))
mutual
def treeB : PyData → Bool
  | .str w => leafOk (TL.tl w)
  | .tuple ds => treesT ds
  | _ => false
def treesT : List PyData → Bool
  | .str w :: r => leafOk (TL.tl w) && treesB r
  | _ => false
def treesB : List PyData → Bool
  | [] => true
  | d :: r => treeB d && treesB r
end
theorem leaf_word {T : List Nat} (h : TextOk T) {ok : Nat → Bool} {p : Nat} : leafOk (wordR T ok p) = true := by
  have e : T = T.take p ++ (wordR T ok p ++ T.drop (p + (wordR T ok p).length)) := by
    rw [← (at_word (T := T) (ok := ok) (p := p)).1, List.take_append_drop]
  have hl := congrArg List.length e
  rw [List.length_append, List.length_append] at hl
  have h2 := h.len
  unfold leafOk
  rw [Bool.and_eq_true, Bool.and_eq_true, Bool.or_eq_true, decide_eq_true_eq, decide_eq_true_eq]
  refine ⟨⟨List.all_eq_true.mpr fun c hc => decide_eq_true (h.code c ?_), by omega⟩, ?_⟩
  · rw [e]
    exact List.mem_append_right _ (List.mem_append_left _ hc)
  · cases hf : (wordR T ok p).all isFig with
    | false => exact .inl rfl
    | true => exact .inr (h.runs _ _ _ e (List.all_eq_true.mp hf))
theorem trees_mem : ∀ {ds : List PyData}, (∀ d ∈ ds, treeB d = true) → treesB ds = true
  | [], _ => by rw [treesB]
  | d :: r, h => by rw [treesB, h d List.mem_cons_self, trees_mem fun x hx => h x (List.mem_cons_of_mem _ hx)]; rfl
theorem trees_snoc : ∀ {ds : List PyData} {d : PyData}, treesB ds = true → treeB d = true → treesB (ds ++ [d]) = true
  | [], d, _, h => by rw [List.nil_append, treesB, h, treesB]; rfl
  | x :: r, d, h, g => by
    rw [treesB, Bool.and_eq_true] at h
    rw [List.cons_append, treesB, h.1, trees_snoc h.2 g]
    rfl
theorem treesT_snoc : ∀ {ds : List PyData} {d : PyData}, treesT ds = true → treeB d = true → treesT (ds ++ [d]) = true
  | [], _, h, _ => by simp [treesT] at h
  | x :: r, d, h, g => by
    cases x <;> simp only [treesT, Bool.and_eq_true, Bool.false_eq_true] at h
    rw [List.cons_append, treesT, h.1, trees_snoc h.2 g]
    rfl
theorem depthAll_snoc : ∀ {ds : List PyData} {d : PyData} {n : Nat}, PyData.depthAll ds ≤ n → PyData.depth d ≤ n → PyData.depthAll (ds ++ [d]) ≤ n
  | [], d, n, _, h => by
    rw [List.nil_append]
    simp only [PyData.depthAll]
    omega
  | x :: r, d, n, h, g => by
    rw [List.cons_append]
    simp only [PyData.depthAll] at h ⊢
    have := depthAll_snoc (ds := r) (d := d) (n := n) (by omega) g
    omega
theorem items_tree {T : List Nat} (h : TextOk T) {sub : Nat → Option (PyData × Nat)} {n : Nat} (S : ∀ p d q, sub p = some (d, q) → treeB d = true ∧ PyData.depth d ≤ n) : ∀ (m p : Nat) (acc : List PyData) (d : PyData) (q : Nat), treesT acc = true → PyData.depthAll acc ≤ n → itemsR sub T m p acc = some (d, q) → treeB d = true ∧ PyData.depth d ≤ n + 1
  | 0, _, _, _, _, _, _, e => by cases e
  | m + 1, p, acc, d, q, ht, hd, e => by
    unfold itemsR at e
    split at e
    · split at e
      · obtain ⟨⟨x, q1⟩, h1, e⟩ := Option.bind_eq_some_iff.mp e
        obtain ⟨s1, s2⟩ := S _ _ _ h1
        exact items_tree h S m _ _ _ _ (treesT_snoc ht s1) (depthAll_snoc hd s2) e
      · refine items_tree h S m _ _ _ _ (treesT_snoc ht ?_) (depthAll_snoc hd (by simp [PyData.depth])) e
        rw [treeB]
        exact leaf_word h
    · split at e
      · cases e
        refine ⟨by rw [treeB]; exact ht, ?_⟩
        rw [PyData.depth]
        omega
      · cases e
theorem parsed_tree {T : List Nat} (h : TextOk T) : ∀ (n p : Nat) (d : PyData) (q : Nat), parsedR n T p = some (d, q) → treeB d = true ∧ PyData.depth d ≤ n
  | 0, _, _, _, e => by cases e
  | n + 1, p, d, q, e => by
    unfold parsedR at e
    split at e
    · cases e
      exact ⟨by decide +kernel, by simp [PyData.depth, PyData.depthAll]⟩
    split at e
    · refine items_tree h (parsed_tree h n) _ _ _ _ _ ?_ (by simp [PyData.depth, PyData.depthAll]) e
      rw [treesT, treesB]
      have : leafOk (TL.tl (⟨(wordR T notBlank (p + 1)).toArray⟩ : Str)) = true := leaf_word h
      rw [this]
      rfl
    · cases e
theorem ascii_str {w : Str} (h : ∀ c ∈ TL.tl w, c < 128) : PyData.strOk w = true := by
  have e : w = ⟨(TL.tl w).toArray⟩ := str_ext rfl
  rw [e]
  unfold PyData.strOk
  simp only [List.all_toArray]
  refine List.all_eq_true.mpr fun c hc => ?_
  have := h c hc
  simp
  omega
theorem leaf_ascii {w : List Nat} (h : leafOk w = true) : (∀ c ∈ w, c < 128) ∧ w.length ≤ 4300 := by
  unfold leafOk at h
  rw [Bool.and_eq_true, Bool.and_eq_true, decide_eq_true_eq] at h
  exact ⟨fun c hc => of_decide_eq_true (List.all_eq_true.mp h.1.1 c hc), h.1.2⟩
theorem leaf_small {w : Str} (h : leafOk (TL.tl w) = true) : textSmall (.str w) = true := by
  obtain ⟨h1, h2⟩ := leaf_ascii h
  have hl : (TL.tl w).length = w.length := Array.length_toList
  unfold textSmall
  rw [Bool.and_eq_true, decide_eq_true_eq]
  exact ⟨by omega, ascii_str h1⟩
theorem num_head {ps : List Nat} {w : Str} {r : List PyData} (h : 0 ∉ ps) : numAll ps 0 (.str w :: r) = .str w :: numAll ps 1 r := by rw [numAll, if_neg (fun z => h z.1)]
theorem heads_flat (w : Str) (i : Int) : heads (.str w) = true ∧ heads (.int i) = true ∧ numD (.str w) = .str w := by simp [heads, numD]
mutual
theorem tree_num : ∀ d : PyData, treeB d = true → PyData.canLay0 (numD d) = true ∧ heads (numD d) = true ∧ PyData.depth (numD d) = PyData.depth d
  | .str w, h => by
    rw [treeB] at h
    rw [(heads_flat w 0).2.2]
    refine ⟨?_, (heads_flat w 0).1, rfl⟩
    rw [PyData.canLay0]
    exact ascii_str (leaf_ascii h).1
  | .tuple (.str w :: r), h => by
    rw [treeB, treesT, Bool.and_eq_true] at h
    obtain ⟨h1, h2, h3⟩ := trees_num (placesI (.str w :: r)) 1 r h.2
    rw [numD, num_head (places_zero _)]
    refine ⟨?_, by rw [heads]; exact h2, ?_⟩
    · rw [PyData.canLay0, PyData.canLayAll0, h1, PyData.canLay0, ascii_str (leaf_ascii h.1).1]
      rfl
    · rw [PyData.depth, PyData.depth, PyData.depthAll, PyData.depthAll, h3]
  | .tuple [], h => by simp [treeB, treesT] at h
  | .tuple (.none :: _), h => by simp [treeB, treesT] at h
  | .tuple (.bool _ :: _), h => by simp [treeB, treesT] at h
  | .tuple (.int _ :: _), h => by simp [treeB, treesT] at h
  | .tuple (.list _ :: _), h => by simp [treeB, treesT] at h
  | .tuple (.tuple _ :: _), h => by simp [treeB, treesT] at h
  | .tuple (.dict _ :: _), h => by simp [treeB, treesT] at h
  | .none, h => by simp [treeB] at h
  | .bool _, h => by simp [treeB] at h
  | .int _, h => by simp [treeB] at h
  | .list _, h => by simp [treeB] at h
  | .dict _, h => by simp [treeB] at h
theorem trees_num (ps : List Nat) : ∀ (k : Nat) (ds : List PyData), treesB ds = true → PyData.canLayAll0 (numAll ps k ds) = true ∧ headsAll (numAll ps k ds) = true ∧ PyData.depthAll (numAll ps k ds) = PyData.depthAll ds
  | _, [], _ => by
    rw [numAll]
    exact ⟨by rw [PyData.canLayAll0], by rw [headsAll], rfl⟩
  | k, .tuple es :: r, h => by
    rw [treesB, Bool.and_eq_true] at h
    obtain ⟨a1, a2, a3⟩ := tree_num (.tuple es) h.1
    obtain ⟨b1, b2, b3⟩ := trees_num ps (k + 1) r h.2
    rw [numAll]
    exact ⟨by rw [PyData.canLayAll0, a1, b1]; rfl, by rw [headsAll, a2, b2]; rfl, by rw [PyData.depthAll, PyData.depthAll, a3, b3]⟩
  | k, .str w :: r, h => by
    rw [treesB, Bool.and_eq_true, treeB] at h
    obtain ⟨b1, b2, b3⟩ := trees_num ps (k + 1) r h.2
    rw [numAll]
    by_cases hc : k ∈ ps ∧ canon (TL.tl w) = true
    · rw [if_pos hc]
      refine ⟨?_, ?_, ?_⟩
      · rw [PyData.canLayAll0, b1, PyData.canLay0]
        rfl
      · rw [headsAll, b2, (heads_flat w _).2.1]
        rfl
      · rw [PyData.depthAll, PyData.depthAll, b3]
        rfl
    · rw [if_neg hc]
      refine ⟨?_, ?_, ?_⟩
      · rw [PyData.canLayAll0, b1, PyData.canLay0, ascii_str (leaf_ascii h.1).1]
        rfl
      · rw [headsAll, b2, (heads_flat w 0).1]
        rfl
      · rw [PyData.depthAll, PyData.depthAll, b3]
  | _, .none :: _, h => by simp [treesB, treeB] at h
  | _, .bool _ :: _, h => by simp [treesB, treeB] at h
  | _, .int _ :: _, h => by simp [treesB, treeB] at h
  | _, .list _ :: _, h => by simp [treesB, treeB] at h
  | _, .dict _ :: _, h => by simp [treesB, treeB] at h
end
theorem fine_leaf {w : Str} (h : leafOk (TL.tl w) = true) : fine (.str w) = true := fine_str (ascii_str (leaf_ascii h).1)
mutual
theorem fine_num : ∀ d : PyData, treeB d = true → PyData.depth d ≤ 63 → fine (numD d) = true
  | .str w, h, _ => by
    rw [treeB] at h
    rw [(heads_flat w 0).2.2]
    exact fine_leaf h
  | .tuple (.str w :: r), h, hd => by
    obtain ⟨t1, t2, t3⟩ := tree_num _ h
    rw [treeB, treesT, Bool.and_eq_true] at h
    have hd2 : PyData.depthAll r ≤ 63 := by
      rw [PyData.depth, PyData.depthAll] at hd
      omega
    obtain ⟨f1, f2⟩ := fines_num (placesI (.str w :: r)) 1 r h.2 hd2
    have e : numD (.tuple (.str w :: r)) = .tuple (.str w :: numAll (placesI (.str w :: r)) 1 r) := by rw [numD, num_head (places_zero _)]
    rw [e] at t1 t3 ⊢
    rw [fine, fineAll, fine_leaf h.1, f1, Bool.true_and, Bool.and_true]
    unfold finB dGood
    rw [Bool.and_eq_true, Bool.and_eq_true, Bool.and_eq_true, decide_eq_true_eq]
    refine ⟨⟨⟨shaped_iff.mpr ⟨t1, by omega⟩, rfl⟩, ?_⟩, by omega⟩
    show (PyData.str w :: numAll (placesI (.str w :: r)) 1 r).all textSmall = true
    rw [List.all_cons, leaf_small h.1, f2]
    rfl
  | .tuple [], h, _ => by simp [treeB, treesT] at h
  | .tuple (.none :: _), h, _ => by simp [treeB, treesT] at h
  | .tuple (.bool _ :: _), h, _ => by simp [treeB, treesT] at h
  | .tuple (.int _ :: _), h, _ => by simp [treeB, treesT] at h
  | .tuple (.list _ :: _), h, _ => by simp [treeB, treesT] at h
  | .tuple (.tuple _ :: _), h, _ => by simp [treeB, treesT] at h
  | .tuple (.dict _ :: _), h, _ => by simp [treeB, treesT] at h
  | .none, h, _ => by simp [treeB] at h
  | .bool _, h, _ => by simp [treeB] at h
  | .int _, h, _ => by simp [treeB] at h
  | .list _, h, _ => by simp [treeB] at h
  | .dict _, h, _ => by simp [treeB] at h
theorem fines_num (ps : List Nat) : ∀ (k : Nat) (ds : List PyData), treesB ds = true → PyData.depthAll ds ≤ 63 → fineAll (numAll ps k ds) = true ∧ (numAll ps k ds).all textSmall = true
  | _, [], _, _ => by
    rw [numAll]
    exact ⟨by rw [fineAll], rfl⟩
  | k, .tuple es :: r, h, hd => by
    rw [treesB, Bool.and_eq_true] at h
    rw [PyData.depthAll] at hd
    have a1 := fine_num (.tuple es) h.1 (by omega)
    obtain ⟨b1, b2⟩ := fines_num ps (k + 1) r h.2 (by omega)
    rw [numAll]
    refine ⟨by rw [fineAll, a1, b1]; rfl, ?_⟩
    rw [List.all_cons, b2, Bool.and_true, numD]
    rfl
  | k, .str w :: r, h, hd => by
    rw [treesB, Bool.and_eq_true, treeB] at h
    rw [PyData.depthAll] at hd
    obtain ⟨b1, b2⟩ := fines_num ps (k + 1) r h.2 (by omega)
    rw [numAll]
    by_cases hc : k ∈ ps ∧ canon (TL.tl w) = true
    · rw [if_pos hc, fineAll, b1, fine_int, List.all_cons, b2]
      exact ⟨rfl, rfl⟩
    · rw [if_neg hc, fineAll, b1, fine_leaf h.1, List.all_cons, b2, leaf_small h.1]
      exact ⟨rfl, rfl⟩
  | _, .none :: _, h, _ => by simp [treesB, treeB] at h
  | _, .bool _ :: _, h, _ => by simp [treesB, treeB] at h
  | _, .int _ :: _, h, _ => by simp [treesB, treeB] at h
  | _, .list _ :: _, h, _ => by simp [treesB, treeB] at h
  | _, .dict _ :: _, h, _ => by simp [treesB, treeB] at h
end


/-! ### the law's reader, walked (k16) -/
theorem min_end {T : List Nat} {ok : Nat → Bool} {p : Nat} (hp : p ≤ T.length) {m : Int} (hm : m ∈ ((List.range' p (T.length - p)).filter (fun k => !(ok (T.getD k 0)))).map (fun k : Nat => (k : Int)) ++ [(T.length : Int)])
    (hl : ∀ y ∈ ((List.range' p (T.length - p)).filter (fun k => !(ok (T.getD k 0)))).map (fun k : Nat => (k : Int)) ++ [(T.length : Int)], m ≤ y) : m = ((p + (wordR T ok p).length : Nat) : Int) := by
  have hw := word_len (ok := ok) hp
  have he : ((p + (wordR T ok p).length : Nat) : Int) ∈ ((List.range' p (T.length - p)).filter (fun k => !(ok (T.getD k 0)))).map (fun k : Nat => (k : Int)) ++ [(T.length : Int)] := by
    rcases Nat.lt_or_eq_of_le hw with h | h
    · refine List.mem_append_left _ (List.mem_map.mpr ⟨_, List.mem_filter.mpr ⟨List.mem_range'_1.mpr ⟨by omega, by omega⟩, ?_⟩, rfl⟩)
      rcases (word_at (T := T) (ok := ok) (p := p) (i := (wordR T ok p).length)).2 rfl with z | ⟨y, z, z2⟩
      · omega
      · rw [List.getD_eq_getElem?_getD, z]
        show (!(ok y)) = true
        rw [z2]
        rfl
    · rw [h]
      exact List.mem_append_right _ (List.mem_singleton_self _)
  have h1 := hl _ he
  have h2 : ((p + (wordR T ok p).length : Nat) : Int) ≤ m := by
    rcases List.mem_append.mp hm with h | h
    · obtain ⟨k, hk, rfl⟩ := List.mem_map.mp h
      obtain ⟨k1, k2⟩ := List.mem_filter.mp hk
      obtain ⟨k3, k4⟩ := List.mem_range'_1.mp k1
      refine Int.not_lt.mp fun z => ?_
      obtain ⟨y, y1, y2⟩ := (word_at (T := T) (ok := ok) (p := p) (i := k - p)).1 (by omega)
      rw [show p + (k - p) = k by omega] at y1
      rw [List.getD_eq_getElem?_getD, y1] at k2
      have k2 : (!(ok y)) = true := k2
      rw [y2] at k2
      cases k2
    · rw [List.mem_singleton.mp h]
      omega
  omega
theorem cut_n (z : Str) (p n : Nat) : cutS z (some (p : Int)) (some ((p : Int) + (n : Int))) = strOfL (((TL.tl z).drop p).take n) := by
  unfold cutS strOfL
  rw [show ((p : Int) + (n : Int)) = ((p + n : Nat) : Int) by omega, HT.sIx_nat, HT.sIx_nat, TL.len_tl]
  show Str.mk (((TL.tl z).drop (min p (TL.tl z).length)).take (min (p + n) (TL.tl z).length - min p (TL.tl z).length)).toArray = _
  rcases Nat.lt_or_ge p (TL.tl z).length with h | h
  · rw [Nat.min_eq_left (show p ≤ (TL.tl z).length by omega)]
    rcases Nat.lt_or_ge (p + n) (TL.tl z).length with h2 | h2
    · rw [Nat.min_eq_left (by omega), show p + n - p = n by omega]
    · have e1 : ((TL.tl z).drop p).take n = (TL.tl z).drop p := List.take_of_length_le (by rw [List.length_drop]; omega)
      rw [Nat.min_eq_right h2, e1, List.take_of_length_le (by rw [List.length_drop]; omega)]
  · rw [Nat.min_eq_right h, List.drop_of_length_le (Nat.le_refl _), List.drop_of_length_le (by omega)]
    simp
def idxs (T : List Nat) (ok : Nat → Bool) (p : Nat) : List Int := ((List.range' p (T.length - p)).filter (fun k => !(ok (T.getD k 0)))).map (fun k : Nat => (k : Int))
theorem outs_scan {T : List Nat} {ok : Nat → Bool} {p n : Nat} (hn : n = T.length - p) : outs (fun i => if (!(ok (T.getD (p + i) 0))) = true then some (V.int ((p + i : Nat) : Int)) else none) n = (idxs T ok p).map V.int := by
  have := outs_filter (out := fun i => if (!(ok (T.getD (p + i) 0))) = true then some (V.int ((p + i : Nat) : Int)) else none) (l := List.range' p (T.length - p)) (p := fun k => !(ok (T.getD k 0))) (f := fun k : Nat => V.int (k : Int)) (fun i x hx => by
    have hi : i < T.length - p := by
      have := (List.getElem?_eq_some_iff.mp hx).1
      rwa [List.length_range'] at this
    rw [List.getElem?_range' hi] at hx
    have hx : p + 1 * i = x := Option.some.inj hx
    rw [show x = p + i by omega])
  rw [List.length_range'] at this
  rw [hn, this]
  unfold idxs
  rw [List.map_map]
  rfl
theorem idxs_len {T : List Nat} {ok : Nat → Bool} {p : Nat} : (idxs T ok p).length ≤ T.length := by
  unfold idxs
  rw [List.length_map]
  have := List.length_filter_le (fun k => !(ok (T.getD k 0))) (List.range' p (T.length - p))
  rw [List.length_range'] at this
  omega
theorem blank_is (c : Nat) : decide (V.str (strOfL [c]) = V.str (strOfL [32])) = !(notBlank c) := by
  rw [eq_strOf]
  unfold notBlank
  by_cases h : c = 32
  · subst h; rfl
  · rw [decide_eq_true h, decide_eq_false (fun z => h (List.cons.inj z).1)]
    rfl
theorem end_is (c : Nat) : decide (c ∈ (Str.ofString " )").cps.toList) = !(notEnd c) := by
  have h : (Str.ofString " )").cps.toList = [32, 41] := by decide +kernel
  rw [h]
  unfold notEnd
  by_cases h1 : c = 32
  · subst h1; decide
  · by_cases h2 : c = 41
    · subst h2; decide
    · rw [decide_eq_true h1, decide_eq_true h2, decide_eq_false (by simp; omega)]
      rfl
mutual
/-- data without a list: a list's change leaves it -/
def noL : PyData → Bool
  | .list _ => false
  | .dict _ => false
  | .tuple ds => noLs ds
  | _ => true
def noLs : List PyData → Bool
  | [] => true
  | d :: r => noL d && noLs r
end
section
variable {K : PySem.W.Frag} {H H' : Hp} {L : Addr} {ys : List V}
theorem sqT_lst {a : Addr} {xs : List V} (hl : H L = some (.lst ys)) (e : Exb L H H') (h : SqT K H a xs) : SqT K H' a xs := by
  have ne : ∀ o : HO, H a = some o → (∀ zs, o ≠ .lst zs) → a ≠ L := fun o ho hn z => by
    rw [z, hl] at ho
    exact hn _ (Option.some.inj ho).symm
  rcases h with (h | ⟨o, h⟩) | h
  · exact .inl (.inl (e _ _ (ne _ h fun _ z => nomatch z) h))
  · exact .inl (.inr ⟨o, e _ _ (ne _ h fun _ z => nomatch z) h⟩)
  · exact .inr h
mutual
theorem dp_lst (hl : H L = some (.lst ys)) (e : Exb L H H') : ∀ {v : V} {d : PyData}, noL d = true → Dp K H v d → Dp K H' v d
  | _, _, _, .non => .non
  | _, _, _, .bl b => .bl b
  | _, _, _, .int i => .int i
  | _, _, _, .str x => .str x
  | _, _, z, .lst _ _ => by simp [noL] at z
  | _, _, z, .tup h a => .tup (sqT_lst hl e h) (dpAll_lst hl e (by simpa [noL] using z) a)
theorem dpAll_lst (hl : H L = some (.lst ys)) (e : Exb L H H') : ∀ {vs : List V} {ds : List PyData}, noLs ds = true → DpAll K H vs ds → DpAll K H' vs ds
  | _, _, _, .nil => .nil
  | _, _, z, .cons h a => by
    rw [noLs, Bool.and_eq_true] at z
    exact .cons (dp_lst hl e z.1 h) (dpAll_lst hl e z.2 a)
end
end
mutual
theorem tree_noL : ∀ d : PyData, treeB d = true → noL d = true
  | .str _, _ => by simp [noL]
  | .tuple (.str w :: r), h => by
    rw [treeB, treesT, Bool.and_eq_true] at h
    rw [noL, noLs, trees_noL r h.2]
    simp [noL]
  | .tuple [], h => by simp [treeB, treesT] at h
  | .tuple (.none :: _), h => by simp [treeB, treesT] at h
  | .tuple (.bool _ :: _), h => by simp [treeB, treesT] at h
  | .tuple (.int _ :: _), h => by simp [treeB, treesT] at h
  | .tuple (.list _ :: _), h => by simp [treeB, treesT] at h
  | .tuple (.tuple _ :: _), h => by simp [treeB, treesT] at h
  | .tuple (.dict _ :: _), h => by simp [treeB, treesT] at h
  | .none, h => by simp [treeB] at h
  | .bool _, h => by simp [treeB] at h
  | .int _, h => by simp [treeB] at h
  | .list _, h => by simp [treeB] at h
  | .dict _, h => by simp [treeB] at h
theorem trees_noL : ∀ ds : List PyData, treesB ds = true → noLs ds = true
  | [], _ => by rw [noLs]
  | d :: r, h => by
    rw [treesB, Bool.and_eq_true] at h
    rw [noLs, tree_noL d h.1, trees_noL r h.2]
    rfl
end
theorem noLs_snoc : ∀ {ds : List PyData} {d : PyData}, noLs ds = true → noL d = true → noLs (ds ++ [d]) = true
  | [], d, _, h => by rw [List.nil_append, noLs, h, noLs]; rfl
  | x :: r, d, h, g => by
    rw [noLs, Bool.and_eq_true] at h
    rw [List.cons_append, noLs, h.1, noLs_snoc h.2 g]
    rfl
theorem word_step {T : List Nat} {ok : Nat → Bool} {p c : Nat} (h : (T.drop p).take 1 = [c]) (hc : ok c = true) : p + (wordR T ok p).length = p + 1 + (wordR T ok (p + 1)).length ∧ p + 1 ≤ T.length := by
  have hd : ∃ r, T.drop p = c :: r := by
    cases hq : T.drop p with
    | nil => rw [hq] at h; cases h
    | cons x r => rw [hq] at h; cases h; exact ⟨r, rfl⟩
  obtain ⟨r, hr⟩ := hd
  have hl := congrArg List.length hr
  rw [List.length_drop, List.length_cons] at hl
  refine ⟨?_, by omega⟩
  unfold wordR
  rw [hr, List.takeWhile_cons, if_pos hc, ← List.drop_drop, hr, List.length_cons, List.drop_succ_cons, List.drop_zero]
  omega
theorem opens_le {T : List Nat} {a b : Nat} (h : a ≤ b) : (T.drop b).count 40 ≤ (T.drop a).count 40 := by
  rw [show b = a + (b - a) by omega, ← List.drop_drop]
  exact (List.drop_sublist _ _).count_le 40
theorem opens_step {T : List Nat} {p : Nat} (h : (T.drop p).take 1 = [40]) : (T.drop (p + 1)).count 40 + 1 = (T.drop p).count 40 := by
  have hd : ∃ r, T.drop p = 40 :: r := by
    cases hq : T.drop p with
    | nil => rw [hq] at h; cases h
    | cons x r => rw [hq] at h; cases h; exact ⟨r, rfl⟩
  obtain ⟨r, hr⟩ := hd
  rw [← List.drop_drop, hr, List.drop_succ_cons, List.drop_zero, List.count_cons_self]
def opensT (l : List Nat) : Nat := l.count 40
theorem sc__law_parsed : FnScope ["_law_text_here", "_law_at", "_law_end", "_law_k", "_law_parts", "_law_word", "_law_found"] ["_law_text_here", "_law_at"] (defScope s__law_parsed) := ⟨rfl, rfl, rfl, by decide +kernel, rfl, by decide +kernel, by decide +kernel⟩
def ParsedV (K : PySem.W.Frag) (H : Hp) (v : V) : Option (PyData × Nat) → Prop
  | none => v = .non
  | some (d, q) => ∃ (a : Addr) (w : V), v = .ref a ∧ H a = some (.tup [w, .int (q : Int)]) ∧ Dp K H w d
def spParsed (K : PySem.W.Frag) (n : Nat) : Sp := fun vs H Q _ => ∃ (T : Str) (p : Nat), vs = [.str T, .int (p : Int)] ∧ TextOk (TL.tl T) ∧ p ≤ (TL.tl T).length ∧ opensT ((TL.tl T).drop p) < n ∧ ∀ v H', Ex H H' → ParsedV K H' v (parsedR n (TL.tl T) p) → Q v H'
theorem step__law_parsed {f : Addr} {fd : FuncData} (F : Fun K "_law_parsed" "_law_parsed" s__law_parsed f fd) (B : Blt mg) {n k : Nat} (c__law_parsed : Dn P w K mg base k "_law_parsed" (spParsed K n)) :
    FnOk P w K mg base CX0 (k + 1) f fd ["_law_text_here", "_law_at"] (spParsed K (n + 1)) := by
  have nd := sc__law_parsed.nd
  refine F.ok sc__law_parsed (fun vs H Q E h => ?_) (fun cdv A outer s H vs Q E hr h => ?_)
  · obtain ⟨T, p, rfl, _⟩ := h
    rfl
  · obtain ⟨T, p, rfl, hT, hp, hn, q⟩ := h
    have hTl : T.length = (TL.tl T).length := TL.len_tl T
    have hTn := hT.len
    have hsz : T.length ≤ sizeLine := Nat.le_trans (show T.length ≤ 100000 by omega) (by decide)
    refine ⟨_, 
    (pss_cons (ps_if (pt_cmpR op_eq (pe_slice sl_str (pv 0) (po_some (pv 1)) (po_some (pe_op op_add (pv 1) pe_int))) pe_str (nomark _)) (pss_one (ps_ret (pe_tupN (pa_cons (pe_tupN (pa_cons pe_str pa_nil)) (pa_cons (pe_op op_add (pv 1) pe_int) pa_nil))))) pss_nil)
    (pss_cons (ps_if (pt_cmpR op_ne (pe_slice sl_str (pv 0) (po_some (pv 1)) (po_some (pe_op op_add (pv 1) pe_int))) pe_str (nomark _)) (pss_one (ps_ret pe_non)) pss_nil)
    (pss_cons (ps_set (i := 2) nd rfl (Or.inl rfl) (pe_callB (minK (K := K) rfl rfl) (by rfl) B.min bt_min (pa_cons (pe_op op_catN (pe_lc (own := [("_law_k", 3)]) (g := gName 3) rfl nd (pi_range2 (by rfl) B.range (pa_cons (pv 1) (pa_cons (pe_callB call_len_str (by rfl) B.len PySem.boot_len (pa_cons (pv 0) pa_nil)) pa_nil))) (blkOk_by (N := ["_law_text_here", "_law_at", "_law_end", "_law_k", "_law_parts", "_law_word", "_law_found"]) (sc := defScope s__law_parsed) (by decide +kernel)) (fun _ _ _ _ _ => pg_name (i := 3) nd rfl (Or.inl rfl)) (fun _ _ _ _ _ => (pts_one (pt_cmpR op_eq (pe_ix ix_str (pv 0) (pv 3) (fun _ _ => rfl)) pe_str (nomark _)))) (fun _ _ _ _ _ => (pv 3))) (pe_lstN (pa_cons (pe_callB call_len_str (by rfl) B.len PySem.boot_len (pa_cons (pv 0) pa_nil)) pa_nil))) pa_nil)))
    (pss_cons (ps_set (i := 4) nd rfl (Or.inl rfl) (pe_lstN (pa_cons (pe_slice sl_str (pv 0) (po_some (pe_op op_add (pv 1) pe_int)) (po_some (pv 2))) pa_nil)))
    (pss_cons (ps_set (i := 1) nd rfl (Or.inl rfl) (pv 2))
    (pss_cons (ps_while PassesOwn.never (pt_cmpR op_eq (pe_slice sl_str (pv 0) (po_some (pv 1)) (po_some (pe_op op_add (pv 1) pe_int))) pe_str (nomark _)) (pss_cons (ps_set (i := 2) nd rfl (Or.inl rfl) (pe_callB (minK (K := K) rfl rfl) (by rfl) B.min bt_min (pa_cons (pe_op op_catN (pe_lc (own := [("_law_k", 3)]) (g := gName 3) rfl nd (pi_range2 (by rfl) B.range (pa_cons (pe_op op_add (pv 1) pe_int) (pa_cons (pe_callB call_len_str (by rfl) B.len PySem.boot_len (pa_cons (pv 0) pa_nil)) pa_nil))) (blkOk_by (N := ["_law_text_here", "_law_at", "_law_end", "_law_k", "_law_parts", "_law_word", "_law_found"]) (sc := defScope s__law_parsed) (by decide +kernel)) (fun _ _ _ _ _ => pg_name (i := 3) nd rfl (Or.inl rfl)) (fun _ _ _ _ _ => (pts_one (pt_cmpR op_in_sign (pe_ix ix_str (pv 0) (pv 3) (fun _ _ => rfl)) pe_str (by rfl)))) (fun _ _ _ _ _ => (pv 3))) (pe_lstN (pa_cons (pe_callB call_len_str (by rfl) B.len PySem.boot_len (pa_cons (pv 0) pa_nil)) pa_nil))) pa_nil)))
    (pss_cons (ps_set (i := 5) nd rfl (Or.inl rfl) (pe_slice sl_str (pv 0) (po_some (pe_op op_add (pv 1) pe_int)) (po_some (pv 2))))
    (pss_cons (ps_if (PW.pt (pw_or (pt_cmpR op_eq (pe_slice sl_str (pv 0) (po_some (pe_op op_add (pv 1) pe_int)) (po_some (pe_op op_add (pv 1) pe_int))) pe_str (nomark _)) (pw_or1 (pt_cmpR op_eq (pv 5) pe_str (nomark _))))) (pss_cons (ps_set (i := 6) nd rfl (Or.inl rfl) (pe_d c__law_parsed hr (by omega) passL (by rfl) (pa_cons (pv 0) (pa_cons (pe_op op_add (pv 1) pe_int) pa_nil))))
    (pss_cons (ps_if (pt_cmpR op_isN (pv 6) pe_non (nomark _)) (pss_one (ps_ret pe_non)) pss_nil)
    (pss_cons (ps_expr (pe_bm PySem.F.plainAttrs_list PySem.F.slot_list_append PySem.F.type_list_append mt_append (pv 4) (pa_cons (pe_ix (ixt (K := K) rfl) (pv 6) pe_int (fun _ _ => rfl)) pa_nil)))
    (pss_one (ps_set (i := 2) nd rfl (Or.inl rfl) (pe_ix (ixt (K := K) rfl) (pv 6) pe_int (fun _ _ => rfl))))))) (pss_one (ps_expr (pe_bm PySem.F.plainAttrs_list PySem.F.slot_list_append PySem.F.type_list_append mt_append (pv 4) (pa_cons (pv 5) pa_nil)))))
    (pss_one (ps_set (i := 1) nd rfl (Or.inl rfl) (pv 2)))))))
    (pss_one (ps_ret (pe_ifExp (pt_cmpR op_eq (pe_slice sl_str (pv 0) (po_some (pv 1)) (po_some (pe_op op_add (pv 1) pe_int))) pe_str (nomark _)) (pe_tupN (pa_cons (pe_callTy (call_tupL (K := K) rfl) (by rfl) B.tuple bt_tuple (pa_cons (pv 4) pa_nil)) (pa_cons (pe_op op_add (pv 1) pe_int) pa_nil))) pe_non))))))))), ?_⟩
    try dsimp only [cxOf, Cx.nox, Cx.wish]
    walk_at "norm"
    refine ⟨_, rfl, _, rfl, _, rfl, _, rfl, _, _, rfl, rfl, _, rfl, T, rfl, hsz, ?_⟩
    have hc6 : cutS T (some (p : Int)) (some ((p : Int) + 6)) = strOfL (((TL.tl T).drop p).take 6) := cut_n T p 6
    rw [hc6, chs_str]
    refine ⟨rfl, _, rfl, ?_⟩
    rw [eq_strOf]
    have t1 : ∀ n, n ≤ 100000 → n ≤ sizeLine := fun n h => Nat.le_trans h (by decide)
    refine ite2 (fun c => ?_) (fun c => ?_)
    · have c := of_decide_eq_true c
      refine ⟨t1 1 (by decide), nT_intro fun a1 H1 n1 e1 h1 => ?_⟩
      refine ⟨_, rfl, _, _, rfl, rfl, t1 2 (by decide), nT_intro fun a2 H2 n2 e2 h2 => ?_⟩
      refine q _ _ (Ex.trans e1 e2) ?_
      unfold parsedR
      rw [if_pos c]
      exact ⟨_, _, rfl, h2, .tup (.of (e2 _ _ h1)) (.cons (by rw [← chs_str]; exact .str _) .nil)⟩
    have c6 : ¬ ((TL.tl T).drop p).take 6 = chs "source" := fun z => c (decide_eq_true z)
    refine ⟨_, rfl, _, rfl, _, rfl, _, rfl, _, _, rfl, rfl, _, rfl, T, rfl, hsz, ?_⟩
    rw [cut_one, show Str.ofString "(" = strOfL [40] from str_ext (by decide +kernel)]
    refine ⟨rfl, _, rfl, ?_⟩
    rw [eq_strOf]
    refine ite2 (fun c => ?_) (fun c => ?_)
    · have c : ¬ ((TL.tl T).drop p).take 1 = [40] := fun z => by
        rw [decide_eq_true z] at c
        cases c
      refine q _ _ (Ex.refl _) ?_
      unfold parsedR
      rw [if_neg c6, if_neg c]
      rfl
    have c1 : ((TL.tl T).drop p).take 1 = [40] := by
      cases hb : decide (((TL.tl T).drop p).take 1 = [40]) with
      | true => exact of_decide_eq_true hb
      | false => rw [hb] at c; exact absurd rfl c
    have hlt : ((TL.tl T).length : Int) < 2 ^ 62 := by omega
    refine ⟨_, rfl, _, rfl, T, rfl, hsz, (p : Int), (T.length : Int), rfl, ⟨by omega, by omega, by omega, by omega⟩, ?_⟩
    refine lc_out (fun i => if (!(notBlank ((TL.tl T).getD (p + i) 0))) = true then some (V.int ((p + i : Nat) : Int)) else none) Goes.range (by omega) ?_ ?_
    · rintro i x H' hi e' rfl R hR
      refine ⟨rfl, ?_⟩
      have hi : p + i < (TL.tl T).length := by omega
      have hg : (TL.tl T)[p + i]? = some (TL.tl T)[p + i] := List.getElem?_eq_getElem hi
      have hgd : (TL.tl T).getD (p + i) 0 = (TL.tl T)[p + i] := by rw [List.getD_eq_getElem?_getD, hg]; rfl
      rw [hgd] at hR
      generalize (TL.tl T)[p + i] = x at hg hR
      refine ⟨_, rfl, _, rfl, T, _, x, rfl, rfl, hsz, by rw [show ((p : Int) + (i : Int)) = ((p + i : Nat) : Int) by omega]; exact atI_nat hg, ?_⟩
      rw [show Str.ofString " " = strOfL [32] from str_ext (by decide +kernel)]
      refine ⟨rfl, _, rfl, ?_⟩
      rw [show V.str (⟨#[x]⟩ : Str) = V.str (strOfL [x]) from rfl, blank_is]
      cases hb : notBlank x with
      | true =>
        refine iteF ?_
        exact hR none _ (by rw [hb]; rfl) (Ex.refl _)
      | false =>
        refine iteT ?_
        refine ⟨_, rfl, ?_⟩
        rw [show ((p : Int) + (i : Int)) = ((p + i : Nat) : Int) by omega]
        exact hR (some _) _ (by rw [hb]; rfl) (Ex.refl _)
    intro L1 H1 n1 e1 hL1
    rw [outs_scan (by omega)] at hL1
    refine ⟨_, rfl, T, rfl, hsz, t1 1 (by decide), nL_intro fun L2 H2 n2 e2 hL2 => ?_⟩
    have hil := idxs_len (T := TL.tl T) (ok := notBlank) (p := p)
    refine ⟨L1, L2, _, _, rfl, rfl, e2 _ _ hL1, hL2, t1 _ (by simp; omega), nL_intro fun L3 H3 n3 e3 hL3 => ?_⟩
    refine ⟨L3, idxs (TL.tl T) notBlank p ++ [(T.length : Int)], rfl, .of (by rw [hL3]; simp), by simp, fun m hm hl => ?_⟩
    rw [hTl] at hm hl
    have hm2 := min_end hp hm hl
    subst hm2
    obtain ⟨hws, hp1⟩ := word_step (ok := notBlank) c1 (by decide)
    have hop := opens_step c1
    have hnn : opensT ((TL.tl T).drop (p + 1)) < n := by unfold opensT at hn ⊢; omega
    have hwl := word_len (T := TL.tl T) (ok := notBlank) (p := p + 1) hp1
    rw [hws]
    refine ⟨_, rfl, _, rfl, _, _, rfl, rfl, _, rfl, _, rfl, _, rfl, T, rfl, hsz, t1 1 (by decide), nL_intro fun L4 H4 n4 e4 hL4 => ?_⟩
    rw [show ((p : Int) + 1) = ((p + 1 : Nat) : Int) by omega, word_cut hp1] at hL4
    have e04 : Ex H H4 := Ex.trans e1 (Ex.trans e2 (Ex.trans e3 e4))
    have n04 : H L4 = none := Ex.back (Ex.trans e1 (Ex.trans e2 e3)) n4
    generalize he0 : p + 1 + (wordR (TL.tl T) notBlank (p + 1)).length = e0 at *
    refine ⟨_, rfl, ?_⟩
    refine ⟨fun m σ H' => ∃ (at_ : Nat) (acc : List PyData) (accv : List V) (y2 y3 y5 y6 : Option V), σ = [some (.str T), some (.int (at_ : Int)), y2, y3, some (.ref L4), y5, y6] ∧ Ex H H' ∧ H' L4 = some (.lst accv) ∧ DpAll K H' accv acc ∧ treesT acc = true ∧ p + 1 ≤ at_ ∧ at_ ≤ (TL.tl T).length ∧
        (TL.tl T).length - at_ < m ∧ itemsR (parsedR n (TL.tl T)) (TL.tl T) m at_ acc = parsedR (n + 1) (TL.tl T) p ∧ acc.length + ((TL.tl T).length - at_) ≤ 4301, ⟨(TL.tl T).length + 1, e0, [.str ⟨(wordR (TL.tl T) notBlank (p + 1)).toArray⟩], _, _, _, _, _, rfl, e04, hL4, .cons (.str _) .nil, ?_, by omega, by omega, by omega, ?_, ?_⟩, ?_⟩
    · rw [treesT, treesB]
      have : leafOk (TL.tl (⟨(wordR (TL.tl T) notBlank (p + 1)).toArray⟩ : Str)) = true := leaf_word hT
      rw [this]
      rfl
    · conv => rhs; unfold parsedR
      rw [if_neg c6, if_pos c1, he0]
    · show 1 + ((TL.tl T).length - e0) ≤ 4301
      omega
    rintro m σ H5 ⟨at_, acc, accv, y2, y3, y5, y6, rfl, e5, hL5, hacc, htr, hpa, hal, hm, hit, hbud⟩
    have hns : noLs acc = true := by
      have := tree_noL (.tuple acc) (by rw [treeB]; exact htr)
      simpa [noL] using this
    have hlen := dpAll_len hacc
    refine ⟨_, rfl, _, rfl, _, rfl, _, rfl, _, _, rfl, rfl, _, rfl, T, rfl, hsz, ?_⟩
    rw [cut_one, show Str.ofString " " = strOfL [32] from str_ext (by decide +kernel)]
    refine ⟨rfl, _, rfl, ?_⟩
    rw [eq_strOf]
    obtain ⟨fm, rfl⟩ : ∃ fm, m = fm + 1 := ⟨m - 1, by omega⟩
    refine ite2 (fun c2 => ?_) (fun c2 => ?_)
    · have c2 := of_decide_eq_true c2
      obtain ⟨hws2, hp2⟩ := word_step (ok := fun c => decide (c = 32)) c2 (by decide)
      refine ⟨fun σ' H' => ∃ (at2 : Nat) (d : PyData) (accv' : List V) (y2 y3 y5 y6 : Option V), σ' = [some (.str T), some (.int (at2 : Int)), y2, y3, some (.ref L4), y5, y6] ∧ Ex H H' ∧ H' L4 = some (.lst accv') ∧ DpAll K H' accv' (acc ++ [d]) ∧ treeB d = true ∧ at_ + 1 ≤ at2 ∧ at2 ≤ (TL.tl T).length ∧
        itemsR (parsedR n (TL.tl T)) (TL.tl T) fm at2 (acc ++ [d]) = parsedR (n + 1) (TL.tl T) p, ?_, ?_⟩
      · rintro σ' H' ⟨at2, d, accv', z2, z3, z5, z6, rfl, e', hL', hacc', htd, ha1, ha2, hit'⟩
        refine ⟨fm, Nat.lt_succ_self _, at2, acc ++ [d], accv', _, _, _, _, rfl, e', hL', hacc', treesT_snoc htr htd, by omega, ha2, by omega, hit', ?_⟩
        rw [List.length_append]
        show acc.length + 1 + _ ≤ _
        omega
      refine ⟨_, rfl, _, _, rfl, rfl, _, rfl, T, rfl, hsz, ((at_ + 1 : Nat) : Int), (T.length : Int), by congr 1, ⟨by omega, by omega, by omega, by omega⟩, ?_⟩
      refine lc_out (fun i => if (!(notEnd ((TL.tl T).getD (at_ + 1 + i) 0))) = true then some (V.int ((at_ + 1 + i : Nat) : Int)) else none) Goes.range (by omega) ?_ ?_
      · rintro i x H' hi e' rfl R hR
        refine ⟨rfl, ?_⟩
        have hi : at_ + 1 + i < (TL.tl T).length := by omega
        have hg : (TL.tl T)[at_ + 1 + i]? = some (TL.tl T)[at_ + 1 + i] := List.getElem?_eq_getElem hi
        have hgd : (TL.tl T).getD (at_ + 1 + i) 0 = (TL.tl T)[at_ + 1 + i] := by rw [List.getD_eq_getElem?_getD, hg]; rfl
        rw [hgd] at hR
        generalize (TL.tl T)[at_ + 1 + i] = x at hg hR
        refine ⟨_, rfl, _, rfl, T, _, x, rfl, rfl, hsz, by rw [show (((at_ + 1 : Nat) : Int) + (i : Int)) = ((at_ + 1 + i : Nat) : Int) by omega]; exact atI_nat hg, ?_⟩
        refine ⟨x, _, rfl, rfl, ?_⟩
        rw [end_is]
        refine ⟨_, rfl, ?_⟩
        cases hb : notEnd x with
        | true =>
          refine iteF ?_
          exact hR none _ (by rw [hb]; rfl) (Ex.refl _)
        | false =>
          refine iteT ?_
          refine ⟨_, rfl, ?_⟩
          rw [show (((at_ + 1 : Nat) : Int) + (i : Int)) = ((at_ + 1 + i : Nat) : Int) by omega]
          exact hR (some _) _ (by rw [hb]; rfl) (Ex.refl _)
      intro M1 H6 n6 e6 hM1
      rw [outs_scan (by omega)] at hM1
      refine ⟨_, rfl, T, rfl, hsz, t1 1 (by decide), nL_intro fun M2 H7 n7 e7 hM2 => ?_⟩
      have hil2 := idxs_len (T := TL.tl T) (ok := notEnd) (p := at_ + 1)
      refine ⟨M1, M2, _, _, rfl, rfl, e7 _ _ hM1, hM2, t1 _ (by simp; omega), nL_intro fun M3 H8 n8 e8 hM3 => ?_⟩
      refine ⟨M3, idxs (TL.tl T) notEnd (at_ + 1) ++ [(T.length : Int)], rfl, .of (by rw [hM3]; simp), by simp, fun m hm hl => ?_⟩
      rw [hTl] at hm hl
      have hm2 := min_end hp2 hm hl
      subst hm2
      have e58 : Ex H5 H8 := Ex.trans e6 (Ex.trans e7 e8)
      have hwl2 := word_len (T := TL.tl T) (ok := notEnd) (p := at_ + 1) hp2
      have hcw := word_cut (T := T) (ok := notEnd) hp2
      have hlf : leafOk (wordR (TL.tl T) notEnd (at_ + 1)) = true := leaf_word hT
      have hit2 := hit
      unfold itemsR at hit2
      rw [if_pos c2] at hit2
      generalize hwd : wordR (TL.tl T) notEnd (at_ + 1) = wd at *
      have ei1 : ((at_ : Int) + 1) = ((at_ + 1 : Nat) : Int) := by omega
      have ei2 : ((at_ : Int) + 2) = ((at_ + 1 : Nat) : Int) + 1 := by omega
      refine ⟨_, rfl, _, rfl, _, _, rfl, rfl, _, rfl, _, rfl, _, rfl, T, rfl, hsz, ?_⟩
      rw [ei1, hcw]
      try dsimp only [tNext, gName, List.set]
      have hL8 := e58 _ _ hL5
      have hacc8 := e58.dpAll hacc
      have e08 : Ex H H8 := Ex.trans e5 e58
      refine tIfS_cut (decide (((TL.tl T).drop (at_ + 1)).take 1 = [40] ∨ wd = chs "source")) (fun Q' hQ => ?_) (fun H9 e9 => ?_)
      · refine ⟨_, rfl, _, rfl, _, _, rfl, rfl, _, rfl, _, rfl, _, _, rfl, rfl, _, rfl, T, rfl, hsz, ?_⟩
        rw [ei1, ei2, cut_one]
        refine ⟨rfl, _, rfl, ?_⟩
        rw [eq_strOf]
        refine ite2 (fun c3 => ?_) (fun c3 => ?_)
        · exact leafT hQ (Ex.refl _) (decide_eq_true (.inl (of_decide_eq_true c3)))
        · refine ⟨_, rfl, rfl, _, rfl, ?_⟩
          rw [eq_strOf]
          refine leafT hQ (Ex.refl _) (decide_eq_decide.mpr ⟨fun z => z.resolve_left fun z => c3 (decide_eq_true z), .inr⟩)
      have hL9 := e9 _ _ hL8
      have hacc9 := e9.dpAll hacc8
      have e09 : Ex H H9 := Ex.trans e08 e9
      refine ite2 (fun c3 => ?_) (fun c3 => ?_)
      · have c3 := of_decide_eq_true c3
        rw [if_pos c3] at hit2
        have hop2 : opensT ((TL.tl T).drop (at_ + 1)) < n := Nat.lt_of_le_of_lt (opens_le (by omega)) hnn
        refine ⟨_, rfl, _, rfl, _, _, rfl, rfl, T, at_ + 1, rfl, hT, hp2, hop2, fun v HA eA hv => ?_⟩
        have e0A : Ex H HA := Ex.trans e09 eA
        have hLA := eA _ _ hL9
        have haccA := eA.dpAll hacc9
        cases hpr : parsedR n (TL.tl T) (at_ + 1) with
        | none =>
          rw [hpr] at hv hit2
          have hv : v = .non := hv
          subst hv
          refine ⟨_, rfl, rfl, _, rfl, ?_⟩
          refine ite2 (fun _ => ?_) (fun z => absurd (decide_eq_true rfl) z)
          refine q _ _ e0A ?_
          rw [← hit2]
          rfl
        | some x =>
          obtain ⟨d, qq⟩ := x
          rw [hpr] at hv hit2
          obtain ⟨a, w, rfl, ha, hw⟩ := hv
          obtain ⟨td, _⟩ := parsed_tree hT n (at_ + 1) d qq hpr
          have hat := parsed_sound (TL.tl T) n (at_ + 1) d qq hpr
          have hqle := hat.le hp2
          have hqge := hat.2
          refine ⟨_, rfl, rfl, _, rfl, ?_⟩
          refine ite2 (fun z => absurd (of_decide_eq_true z) (by simp)) (fun _ => ?_)
          refine ⟨_, rfl, .inl ⟨rfl, _, .of hLA⟩, _, rfl, a, _, _, _, rfl, rfl, .of ha, rfl, L4, _, _, rfl, rfl, hLA, Nat.lt_of_le_of_lt (show accv.length ≤ 5000 by omega) (by decide), ?_⟩
          have hne : a ≠ L4 := fun z => by
            rw [z, hLA] at ha
            cases ha
          refine ⟨_, rfl, a, _, _, _, rfl, rfl, .of (by rw [upd_ne hne]; exact ha), rfl, ?_⟩
          refine ⟨_, rfl, qq, d, _, _, _, _, _, rfl, Ex.mut e0A n04, upd_same, dpAll_app (dpAll_lst hLA Exb.put hns haccA) (.cons (dp_lst hLA Exb.put (tree_noL d td) hw) .nil), td, by omega, hqle, ?_⟩
          exact hit2
      · have c3 : ¬ (((TL.tl T).drop (at_ + 1)).take 1 = [40] ∨ wd = chs "source") := fun z => c3 (decide_eq_true z)
        rw [if_neg c3] at hit2
        refine ⟨_, rfl, .inl ⟨rfl, _, .of hL9⟩, _, rfl, L4, _, _, rfl, rfl, hL9, Nat.lt_of_le_of_lt (show accv.length ≤ 5000 by omega) (by decide), ?_⟩
        refine ⟨_, rfl, at_ + 1 + wd.length, .str ⟨wd.toArray⟩, _, _, _, _, _, rfl, Ex.mut e09 n04, upd_same, dpAll_app (dpAll_lst hL9 Exb.put hns hacc9) (.cons (.str _) .nil), by rw [treeB]; exact hlf, by omega, hwl2, ?_⟩
        exact hit2
    · have c2 : ¬ ((TL.tl T).drop at_).take 1 = [32] := fun z => c2 (decide_eq_true z)
      refine ⟨_, rfl, _, rfl, _, rfl, _, rfl, _, _, rfl, rfl, _, rfl, T, rfl, hsz, ?_⟩
      rw [cut_one, show Str.ofString ")" = strOfL [41] from str_ext (by decide +kernel)]
      refine ⟨rfl, _, rfl, ?_⟩
      rw [eq_strOf]
      unfold itemsR at hit
      rw [if_neg c2] at hit
      refine ite2 (fun c3 => ?_) (fun c3 => ?_)
      · have c3 := of_decide_eq_true c3
        rw [if_pos c3] at hit
        refine ⟨_, rfl, L4, _, rfl, .of hL5, nT_intro fun a1 H6 n6 e6 h1 => ?_⟩
        refine ⟨_, rfl, _, _, rfl, rfl, t1 2 (by decide), nT_intro fun a2 H7 n7 e7 h2 => ?_⟩
        refine q _ _ (Ex.trans e5 (Ex.trans e6 e7)) ?_
        rw [← hit]
        exact ⟨a2, .ref a1, rfl, h2, .tup (.of (e7 _ _ h1)) ((Ex.trans e6 e7).dpAll hacc)⟩
      · have c3 : ¬ ((TL.tl T).drop at_).take 1 = [41] := fun z => c3 (decide_eq_true z)
        rw [if_neg c3] at hit
        refine q _ _ e5 ?_
        rw [← hit]
        rfl
theorem ok__law_parseds {f : Addr} {fd : FuncData} (F : Fun K "_law_parsed" "_law_parsed" s__law_parsed f fd) (B : Blt mg) (hm : mg "_law_parsed" = some (.ref f)) (hk : PySem.W.keepIn K (.ref f) = true) (hb : Binds K fd ["_law_text_here", "_law_at"] []) : ∀ n, Dn P w K mg base n "_law_parsed" (spParsed K n)
  | 0 => .of (FnOk.imp never_ok fun _ _ _ _ h => by
      obtain ⟨_, _, _, _, _, h0, _⟩ := h
      exact absurd h0 (Nat.not_lt_zero _)) hm hk hb
  | n + 1 => .of0 (step__law_parsed F B (ok__law_parseds F B hm hk hb n)) hm hk hb


/-! ### numbers for texts, walked (k16) -/
def numPart (ps : List Nat) (k : Nat) : PyData → PyData
  | .tuple ds => numD (.tuple ds)
  | .str w => if k ∈ ps ∧ canon (TL.tl w) = true then .int (valOf (TL.tl w) : Nat) else .str w
  | d => d
theorem numAll_at (ps : List Nat) : ∀ (ds : List PyData) (k i : Nat), (numAll ps k ds)[i]? = ds[i]?.map (numPart ps (k + i))
  | [], k, i => by rw [numAll]; rfl
  | d :: r, k, i => by
    have e : numAll ps k (d :: r) = numPart ps k d :: numAll ps (k + 1) r := by cases d <;> rw [numAll] <;> simp [numPart]
    rw [e]
    cases i with
    | zero => rfl
    | succ i =>
      rw [List.getElem?_cons_succ, List.getElem?_cons_succ, numAll_at ps r (k + 1) i, show k + 1 + i = k + (i + 1) by omega]
theorem len_text : ∀ ds : List PyData, ds.length ≤ (textAll ds).length
  | [] => Nat.zero_le _
  | d :: r => by
    have := len_text r
    rw [textAll, List.length_cons, List.length_cons, List.length_append]
    omega
theorem len_tup (ds : List PyData) : ds.length ≤ (textD (.tuple ds)).length := by
  have h := len_text ds
  rw [textD]
  by_cases c : isSrc ds = true
  · rw [if_pos c]
    match ds, c with
    | [.str w], _ => show 1 ≤ (chs "source").length; decide +kernel
  · rw [if_neg c, List.length_cons, List.length_append, List.length_drop]
    show _ ≤ (textAll ds).length - 1 + 1 + 1
    omega
theorem part_text : ∀ {ds : List PyData} {d : PyData}, d ∈ ds → (textD d).length + 1 ≤ (textAll ds).length
  | x :: r, d, h => by
    rw [textAll, List.length_cons, List.length_append]
    rcases List.mem_cons.mp h with rfl | h
    · omega
    · have := part_text h
      omega
theorem part_len {w : Str} {r : List PyData} {d : PyData} (h : d ∈ r) : (textD d).length ≤ (textD (.tuple (.str w :: r))).length := by
  cases r with
  | nil => cases h
  | cons x t =>
    have := part_text h
    rw [text_tup, List.length_cons, List.length_append, List.length_append]
    omega
mutual
theorem num_noL : ∀ d : PyData, treeB d = true → noL (numD d) = true
  | .str w, _ => by rw [(heads_flat w 0).2.2]; simp [noL]
  | .tuple (.str w :: r), h => by
    rw [treeB, treesT, Bool.and_eq_true] at h
    rw [numD, num_head (places_zero _), noL, noLs, nums_noL _ 1 r h.2]
    simp [noL]
  | .tuple [], h => by simp [treeB, treesT] at h
  | .tuple (.none :: _), h => by simp [treeB, treesT] at h
  | .tuple (.bool _ :: _), h => by simp [treeB, treesT] at h
  | .tuple (.int _ :: _), h => by simp [treeB, treesT] at h
  | .tuple (.list _ :: _), h => by simp [treeB, treesT] at h
  | .tuple (.tuple _ :: _), h => by simp [treeB, treesT] at h
  | .tuple (.dict _ :: _), h => by simp [treeB, treesT] at h
  | .none, h => by simp [treeB] at h
  | .bool _, h => by simp [treeB] at h
  | .int _, h => by simp [treeB] at h
  | .list _, h => by simp [treeB] at h
  | .dict _, h => by simp [treeB] at h
theorem nums_noL (ps : List Nat) : ∀ (k : Nat) (ds : List PyData), treesB ds = true → noLs (numAll ps k ds) = true
  | _, [], _ => by rw [numAll, noLs]
  | k, .tuple es :: r, h => by
    rw [treesB, Bool.and_eq_true] at h
    rw [numAll, noLs, num_noL (.tuple es) h.1, nums_noL ps (k + 1) r h.2]
    rfl
  | k, .str w :: r, h => by
    rw [treesB, Bool.and_eq_true] at h
    rw [numAll, noLs, nums_noL ps (k + 1) r h.2]
    split <;> simp [noL]
  | _, .none :: _, h => by simp [treesB, treeB] at h
  | _, .bool _ :: _, h => by simp [treesB, treeB] at h
  | _, .int _ :: _, h => by simp [treesB, treeB] at h
  | _, .list _ :: _, h => by simp [treesB, treeB] at h
  | _, .dict _ :: _, h => by simp [treesB, treeB] at h
end
theorem noLs_take : ∀ {ds : List PyData} (i : Nat), noLs ds = true → noLs (ds.take i) = true
  | [], i, _ => by rw [List.take_nil, noLs]
  | d :: r, 0, _ => by rw [List.take_zero, noLs]
  | d :: r, i + 1, h => by
    rw [noLs, Bool.and_eq_true] at h
    rw [List.take_succ_cons, noLs, h.1, noLs_take i h.2]
    rfl
theorem noLs_mem : ∀ {ds : List PyData}, noLs ds = true → ∀ d ∈ ds, noL d = true
  | x :: r, h, d, hd => by
    rw [noLs, Bool.and_eq_true] at h
    rcases List.mem_cons.mp hd with rfl | hd
    · exact h.1
    · exact noLs_mem h.2 d hd
theorem trees_all : ∀ {ds : List PyData}, treesB ds = true → ∀ d ∈ ds, treeB d = true
  | x :: r, h, d, hd => by
    rw [treesB, Bool.and_eq_true] at h
    rcases List.mem_cons.mp hd with rfl | hd
    · exact h.1
    · exact trees_all h.2 d hd
theorem depth_part : ∀ {ds : List PyData} {d : PyData}, d ∈ ds → PyData.depth d ≤ PyData.depthAll ds
  | x :: r, d, h => by
    rw [PyData.depthAll]
    rcases List.mem_cons.mp h with rfl | h
    · omega
    · have := depth_part h
      omega
theorem in_places (k : Nat) (ps : List Nat) : inV (.int (k : Int)) (ps.map fun (i : Nat) => V.int (i : Int)) = decide (k ∈ ps) := by
  unfold inV
  rw [List.any_map, Bool.eq_iff_iff, decide_eq_true_eq, List.any_eq_true]
  constructor
  · rintro ⟨x, hx, h⟩
    have h : ((x : Int) == (k : Int)) = true := h
    rw [beq_iff_eq] at h
    rw [show k = x by omega]
    exact hx
  · intro h
    exact ⟨k, h, by show ((k : Int) == (k : Int)) = true; exact beq_self_eq_true _⟩
theorem seq_cutM {t r : TS} {D : L2.Ends} {σ : L2.St} {H : Hp} (p : L2.St → Hp → Prop) (h1 : ∀ N : L2.St → Hp → Prop, (∀ σ' H', p σ' H' → N σ' H') → t { D with nx := N } σ H) (h2 : ∀ σ' H', p σ' H' → r D σ' H') : tSeq t r D σ H := h1 _ h2
def placesV (a1 a2 a3 : Addr) : List (Key × V) := [(.inr "every", .ref a1), (.inr "later", .ref a2), (.inr "led", .ref a3)]
theorem merge_3 (a1 a2 a3 : Addr) : mergeK [] (placesV a1 a2 a3) = placesV a1 a2 a3 :=
  merge_new _ [] (show ([.inr "every", .inr "later", .inr "led"] : List Key).Nodup by decide +kernel)
theorem places_at {H : Hp} {a0 a1 a2 a3 : Addr} {w : Str} {r : List PyData} (h0 : H a0 = some (.tup [])) (h1 : H a1 = some (.tup [.int 1, .int 2])) (h2 : H a2 = some (.tup [.int 1])) (h3 : H a3 = some (.tup [.int 2, .int 4])) :
    ∃ ap, (valV (placesV a1 a2 a3) (.inr w)).getD (.ref a0) = .ref ap ∧ H ap = some (.tup ((placesI (.str w :: r)).map fun (i : Nat) => V.int (i : Int))) := by
  obtain ⟨t1, t2, t3, t4, t5⟩ := tl_words
  obtain ⟨p1, p2, p3, p4, p5⟩ := places_of
  by_cases c1 : w = "every"
  · subst c1
    exact ⟨a1, rfl, by rw [p1]; exact h1⟩
  by_cases c2 : w = "later"
  · subst c2
    exact ⟨a2, rfl, by rw [p2]; exact h2⟩
  by_cases c3 : w = "led"
  · subst c3
    exact ⟨a3, rfl, by rw [p3]; exact h3⟩
  have e : ∀ x : Str, ¬ w = x → ¬ (Sum.inr x : Key) = Sum.inr w := fun x hx z => hx (Sum.inr.inj z).symm
  refine ⟨a0, ?_, ?_⟩
  · unfold placesV
    rw [valV_neg (e _ c1), valV_neg (e _ c2), valV_neg (e _ c3)]
    rfl
  · rw [placesI, if_neg (fun z => c1 (str_ext (z.trans t1.symm))), if_neg (fun z => c2 (str_ext (z.trans t3.symm))), if_neg (fun z => c3 (str_ext (z.trans t4.symm)))]
    exact h0
theorem trees_head {ds : List PyData} (h : treesT ds = true) : ∃ w r, ds = .str w :: r ∧ leafOk (TL.tl w) = true ∧ treesB r = true := by
  cases ds with
  | nil => simp [treesT] at h
  | cons x r =>
    cases x <;> simp only [treesT, Bool.and_eq_true, Bool.false_eq_true] at h
    exact ⟨_, _, rfl, h.1, h.2⟩
theorem sc__law_numbered : FnScope ["_law_beat_here", "_law_places", "_law_found", "_law_k", "_law_part", "_law_sign"] ["_law_beat_here"] (defScope s__law_numbered) := ⟨rfl, rfl, rfl, by decide +kernel, rfl, by decide +kernel, by decide +kernel⟩
def spNumbered (K : PySem.W.Frag) (n : Nat) : Sp := fun vs H Q _ => ∃ (v : V) (ds : List PyData), vs = [v] ∧ Dp K H v (.tuple ds) ∧ treesT ds = true ∧ (textD (.tuple ds)).length ≤ 5000 ∧ PyData.depth (.tuple ds) ≤ n ∧ ∀ v' H', Ex H H' → Dp K H' v' (numD (.tuple ds)) → Q v' H'
theorem step__law_numbered {f : Addr} {fd : FuncData} (F : Fun K "_law_numbered" "_law_numbered" s__law_numbered f fd) (B : Blt mg) {n k : Nat} (c__law_numbered : Dn P w K mg base k "_law_numbered" (spNumbered K n)) :
    FnOk P w K mg base CX0 (k + 1) f fd ["_law_beat_here"] (spNumbered K (n + 1)) := by
  have nd := sc__law_numbered.nd
  refine F.ok sc__law_numbered (fun vs H Q E h => ?_) (fun cdv A outer s H vs Q E hr h => ?_)
  · obtain ⟨v, ds, rfl, _⟩ := h
    rfl
  · obtain ⟨v, ds, rfl, hd, htr, hl5, hn, q⟩ := h
    have hu := hu_of hr
    have t1 : ∀ n, n ≤ 100000 → n ≤ sizeLine := fun n h => Nat.le_trans h (by decide)
    obtain ⟨a, xs, rfl, hs, ha⟩ := dp_tup hd
    refine ⟨_, 
    (pss_cons (ps_set (i := 1) nd rfl (Or.inl rfl) (pe_dget2 hu (pe_disp (pps_cons pe_str (pe_tupN (pa_cons pe_int (pa_cons pe_int pa_nil))) (pps_cons pe_str (pe_tupN (pa_cons pe_int pa_nil)) (pps_cons pe_str (pe_tupN (pa_cons pe_int (pa_cons pe_int pa_nil))) pps_nil))) (by rfl) (by rfl) (fun z => by cases z) (by decide)) (pe_ix (ixt (K := K) rfl) (pv 0) pe_int (fun _ _ => rfl)) (pe_tupN pa_nil) (by first | exact ⟨rfl, rfl, rfl, rfl⟩)))
    (pss_cons (ps_set (i := 2) nd rfl (Or.inl rfl) (pe_lstN pa_nil))
    (pss_cons (ps_for PassesOwn.never rfl (pi_range1 (by rfl) B.range (pa_cons (pe_callB (lenK (K := K) rfl) (by rfl) B.len PySem.boot_len (pa_cons (pv 0) pa_nil)) pa_nil)) (pg_name (i := 3) nd rfl (Or.inl rfl)) (pss_cons (ps_set (i := 4) nd rfl (Or.inl rfl) (pe_ix (ixt (K := K) rfl) (pv 0) (pv 3) (fun _ _ => rfl)))
    (pss_cons (ps_if (pt_val (pe_callB (isiD (K := K) rfl) (by rfl) B.isinstance bt_isinstance (pa_cons (pv 4) (pa_cons (pe_bltn (v := .ty "tuple") (u := Value.type "tuple") (by rfl) B.tuple bt_tuple rfl) pa_nil)))) (pss_one (ps_set (i := 4) nd rfl (Or.inl rfl) (pe_d c__law_numbered hr (by omega) passL (by rfl) (pa_cons (pv 4) pa_nil)))) (pss_one (ps_if (PW.pt (pw_and (pt_cmpR (inK (K := K) rfl) (pv 3) (pv 1) (by rfl)) (pw_and (pt_cmpR op_ne (pv 4) pe_str (nomark _)) (pw_and1 (pt_cmp (eqNilD (K := K) rfl hr.units (pe_lc (own := [("_law_sign", 5)]) (g := gName 5) rfl nd (pi_str (pv 4)) (blkOk_by (N := ["_law_beat_here", "_law_places", "_law_found", "_law_k", "_law_part", "_law_sign"]) (sc := defScope s__law_numbered) (by decide +kernel)) (fun _ _ _ _ _ => pg_name (i := 5) nd rfl (Or.inl rfl)) (fun _ _ _ _ _ => (pts_one (pt_cmpR op_notIn_sign (pv 5) pe_str (by rfl)))) (fun _ _ _ _ _ => (pv 5))))))))) (pss_one (ps_set (i := 4) nd rfl (Or.inl rfl) (pe_ifExp (PW.pt (pw_or (pt_cmpR op_eq (pv 4) pe_str (nomark _)) (pw_or1 (pt_cmpR op_ne (pe_ix ix_str (pv 4) pe_int (fun _ _ => rfl)) pe_str (nomark _))))) (pe_callTy call_int_str (by rfl) B.int bt_int (pa_cons (pv 4) pa_nil)) (pv 4)))) pss_nil)))
    (pss_one (ps_expr (pe_bm PySem.F.plainAttrs_list PySem.F.slot_list_append PySem.F.type_list_append mt_append (pv 2) (pa_cons (pv 4) pa_nil)))))))
    (pss_one (ps_ret (pe_callTy (call_tupL (K := K) rfl) (by rfl) B.tuple bt_tuple (pa_cons (pv 2) pa_nil))))))), ?_⟩
    try dsimp only [cxOf, Cx.nox, Cx.wish]
    walk_at "norm"
    obtain ⟨w0, r0, rfl, hl0, hr0⟩ := trees_head htr
    obtain ⟨v0, i0, d0⟩ := dpAll_atD ha 0 (by simp)
    have d0 : Dp K H v0 (.str w0) := d0
    cases d0
    intro p np
    have eA : Ex H (upd H p (.dK [])) := Ex.new np
    have hA : (upd H p (.dK [])) p = some (.dK []) := upd_same
    generalize upd H p (.dK []) = HA at eA hA ⊢
    refine ⟨t1 2 (by decide), nT_intro fun a1 H1 n1 e1 h1 => ?_⟩
    refine ⟨t1 1 (by decide), nT_intro fun a2 H2 n2 e2 h2 => ?_⟩
    refine ⟨t1 2 (by decide), nT_intro fun a3 H3 n3 e3 h3 => ?_⟩
    have eA3 : Ex HA H3 := e1.trans (e2.trans e3)
    refine ⟨eA3 _ _ hA, placesV a1 a2 a3, rfl, (show 3 ≤ 15 by decide), ?_⟩
    rw [merge_3]
    have eP : Ex H (upd H3 p (.dK (placesV a1 a2 a3))) := Ex.mut (eA.trans eA3) np
    have hP : (upd H3 p (.dK (placesV a1 a2 a3))) p = some (.dK (placesV a1 a2 a3)) := upd_same
    have pne : ∀ {b : Addr} {zs : List V}, H3 b = some (.tup zs) → (upd H3 p (.dK (placesV a1 a2 a3))) b = some (.tup zs) := fun {b zs} hb => by
      rw [upd_ne (fun z => by rw [z, eA3 _ _ hA] at hb; cases hb)]
      exact hb
    have g1 := pne (e3 _ _ (e2 _ _ h1))
    have g2 := pne (e3 _ _ h2)
    have g3 := pne h3
    generalize upd H3 p (.dK (placesV a1 a2 a3)) = HP at eP hP g1 g2 g3 ⊢
    refine ⟨p, rfl, .inl ⟨_, .inl hP⟩, ?_⟩
    refine ⟨_, rfl, a, xs, _, _, rfl, rfl, eP.sqT hs, i0, ?_⟩
    refine ⟨t1 0 (by decide), nT_intro fun a0 H4 n4 e4 h0 => ?_⟩
    refine ⟨_, DGet.k (k := Sum.inr w0) (e4 _ _ hP), ?_⟩
    obtain ⟨ap, hap, hpt⟩ := places_at (w := w0) (r := r0) h0 (e4 _ _ g1) (e4 _ _ g2) (e4 _ _ g3)
    rw [hap]
    refine ⟨t1 0 (by decide), nL_intro fun L H5 n5 e5 hL => ?_⟩
    have e05 : Ex H H5 := eP.trans (e4.trans e5)
    have nLH : H L = none := Ex.back (eP.trans e4) n5
    have hpt5 := e5 _ _ hpt
    generalize hps : placesI (.str w0 :: r0) = ps at *
    have hxl : xs.length = (PyData.str w0 :: r0).length := dpAll_len ha
    refine ⟨_, rfl, a, xs, rfl, .inr (e05.sqT hs), ?_⟩
    have hl5' : xs.length ≤ 5000 := by
      rw [hxl]
      exact Nat.le_trans (len_tup _) hl5
    have hnl := nums_noL ps 1 r0 hr0
    have hnum : numAll ps 0 (.str w0 :: r0) = .str w0 :: numAll ps 1 r0 := by rw [← hps]; exact num_head (places_zero _)
    have hnl0 : noLs (numAll ps 0 (.str w0 :: r0)) = true := by
      rw [hnum, noLs, hnl]
      simp [noL]
    have hnd : numD (.tuple (.str w0 :: r0)) = .tuple (numAll ps 0 (.str w0 :: r0)) := by rw [numD, hps]
    rw [hnd] at q
    refine ⟨_, rfl, by omega, by omega, ?_⟩
    refine for_range (fun i σ H' => ∃ (accv : List V) (y3 y4 y5 : Option V), σ = [some (.ref a), some (.ref ap), some (.ref L), y3, y4, y5] ∧ Ex H H' ∧ H' L = some (.lst accv) ∧ H' ap = some (.tup (ps.map fun (i : Nat) => V.int (i : Int))) ∧ DpAll K H' accv ((numAll ps 0 (.str w0 :: r0)).take i)) ⟨[], _, _, _, rfl, e05, hL, hpt5, by rw [List.take_zero]; exact .nil⟩ ?_ ?_
    · rintro i σ H6 hi ⟨accv, y3, y4, y5, rfl, e6, hL6, hpt6, hacc⟩
      have hi' : i < (PyData.str w0 :: r0).length := by omega
      obtain ⟨vi, di, hvi, hdi, hdp⟩ := dpAll_at ha i hi'
      have hni : (numAll ps 0 (.str w0 :: r0))[i]? = some (numPart ps i di) := by rw [numAll_at, hdi, Nat.zero_add]; rfl
      have hti : (numAll ps 0 (.str w0 :: r0)).take (i + 1) = (numAll ps 0 (.str w0 :: r0)).take i ++ [numPart ps i di] := by
        rw [List.take_add_one, hni]
        rfl
      have hnp : noL (numPart ps i di) = true := noLs_mem hnl0 _ (List.mem_of_getElem? hni)
      have hti5 : accv.length ≤ 5000 := by
        have := dpAll_len hacc
        rw [List.length_take] at this
        omega
      have hdp6 := e6.dp hdp
      refine ⟨_, rfl, _, rfl, a, xs, _, _, rfl, rfl, e6.sqT hs, by rw [show (0 + (i : Int)) = ((i : Nat) : Int) by omega]; exact atI_nat hvi, ?_⟩
      try dsimp only [tNext, gName, List.set]
      refine seq_cutM (fun σ' H' => ∃ (v' : V) (y5 : Option V), σ' = [some (.ref a), some (.ref ap), some (.ref L), some (.int (0 + (i : Int))), some v', y5] ∧ Ex H6 H' ∧ Dp K H' v' (numPart ps i di)) (fun N hN => ?_) ?_
      · have hm := List.mem_of_getElem? hdi
        have htd : treeB di = true := by
          rcases List.mem_cons.mp hm with rfl | hm
          · rw [treeB]
            exact hl0
          · exact trees_all hr0 _ hm
        cases di with
        | tuple es =>
          have hmem : PyData.tuple es ∈ r0 := by
            rcases List.mem_cons.mp hm with z | hm
            · cases z
            · exact hm
          refine ⟨_, rfl, vi, "tuple", .tuple es, rfl, hdp6, rfl, _, rfl, ?_⟩
          rw [show isA "tuple" (.tuple es) = true from by simp [isA_tab]]
          refine iteT ?_
          have h1 := part_len (w := w0) hmem
          have h2 := depth_part hmem
          rw [PyData.depth, PyData.depthAll] at hn
          rw [treeB] at htd
          refine ⟨_, rfl, vi, es, rfl, hdp6, htd, Nat.le_trans h1 hl5, by omega, fun v' H8 e8 hv => ?_⟩
          exact hN _ _ ⟨v', _, rfl, e8, hv⟩
        | str w =>
          rw [treeB] at htd
          obtain ⟨la, lb⟩ := leaf_ascii htd
          have hwl : (TL.tl w).length = w.length := Array.length_toList
          cases hdp6
          refine ⟨_, rfl, _, "tuple", .str w, rfl, .str _, rfl, _, rfl, ?_⟩
          simp only [isA_tab]
          refine iteF ?_
          refine tIfS_cut (decide (i ∈ ps) && (decide (TL.tl w ≠ []) && (TL.tl w).all isFig)) (fun Q' hQ => ?_) (fun H8 e8 => ?_)
          · refine ⟨_, rfl, _, rfl, ap, _, rfl, .inr (.of hpt6), rfl, by simp [List.all_eq_true, flatV], ?_⟩
            refine ⟨_, rfl, ?_⟩
            rw [show (0 + (i : Int)) = ((i : Nat) : Int) by omega]
            rw [show (if false = true then !inV (V.int ((i : Nat) : Int)) (ps.map fun (i : Nat) => V.int (i : Int)) else inV (V.int ((i : Nat) : Int)) (ps.map fun (i : Nat) => V.int (i : Int))) = decide (i ∈ ps) from in_places i ps]
            refine ite2 (fun c1 => ?_) (fun c1 => ?_)
            · rw [c1, Bool.true_and] at hQ
              refine ⟨_, rfl, ?_⟩
              have hemp : (V.str w = V.str (Str.ofString "")) ↔ TL.tl w = [] := ⟨fun z => by
                rw [V.str.inj z]
                decide +kernel, fun z => congrArg V.str (str_ext (z.trans (by decide +kernel)))⟩
              refine ⟨rfl, _, rfl, ?_⟩
              refine ite2 (fun c2 => ?_) (fun c2 => ?_)
              · have c2 : TL.tl w ≠ [] := fun z => by
                  rw [decide_eq_true (hemp.mpr z)] at c2
                  cases c2
                rw [decide_eq_true c2, Bool.true_and] at hQ
                refine ⟨_, rfl, w, rfl, ?_⟩
                refine lc_out (fun i => (w.cps[i]?).bind fun c => if (!isFig c) = true then some (.str ⟨#[c]⟩) else none) Goes.str (by show w.length ≤ 1000000; omega) ?_ ?_
                · rintro j y H' hj e ⟨c, hc, rfl⟩ R hR
                  refine ⟨rfl, ?_⟩
                  refine ⟨_, rfl, c, _, rfl, rfl, _, rfl, ?_⟩
                  rw [show decide (c ∈ (Str.ofString "0123456789").cps.toList) = isFig c from figs_in c]
                  refine ite2 (fun c3 => ?_) (fun c3 => ?_)
                  · refine ⟨_, rfl, ?_⟩
                    exact hR _ _ (by rw [hc]; exact if_pos c3) (Ex.refl _)
                  · exact hR _ _ (by rw [hc]; exact if_neg c3) (Ex.refl _)
                intro p2 H9 np e9 hp
                rw [show w.cps.size = w.cps.toList.length by simp, outs_filter (p := fun c => !isFig c) (f := fun c => V.str ⟨#[c]⟩) (l := w.cps.toList) (fun i c hc => by
                  have hc' : w.cps[i]? = some c := by rw [← hc]; simp
                  show ((w.cps[i]?).bind _) = _
                  rw [hc']
                  rfl)] at hp
                refine ⟨_, _, rfl, .lst (.of hp) (dpAll_chars _), shaped_chars fun c hc => ?_, ?_⟩
                · have := la c (List.mem_filter.mp hc).1
                  omega
                refine nE_intro fun HA eA => ?_
                have ee : (List.map (fun c => PyData.str ⟨#[c]⟩) (List.filter (fun c => !isFig c) w.cps.toList)).isEmpty = w.cps.toList.all isFig := by
                  generalize w.cps.toList = l
                  induction l with
                  | nil => rfl
                  | cons c r ih =>
                    cases h : isFig c <;> simp [h] at ih ⊢
                    exact ih
                rw [ee]
                exact ⟨_, rfl, leafT hQ (e9.trans eA) rfl⟩
              · have c2 : TL.tl w = [] := by
                  by_cases z : TL.tl w = []
                  · exact z
                  · rw [decide_eq_false (fun y => z (hemp.mp y))] at c2
                    exact absurd rfl c2
                exact leafT hQ (Ex.refl _) (by rw [decide_eq_false (fun z => z c2), Bool.false_and])
            · exact leafT hQ (Ex.refl _) (by rw [Bool.eq_false_iff.mpr c1, Bool.false_and])
          refine ite2 (fun c1 => ?_) (fun c1 => ?_)
          · rw [Bool.and_eq_true, Bool.and_eq_true, decide_eq_true_eq, decide_eq_true_eq] at c1
            obtain ⟨k1, k2, k3⟩ := c1
            have h640 : w.length ≤ 640 := by
              unfold leafOk at htd
              rw [Bool.and_eq_true, Bool.or_eq_true, decide_eq_true_eq, k3] at htd
              rcases htd.2 with z | z
              · cases z
              · omega
            have hint : PySem.intText? w = some ((valOf (TL.tl w) : Nat) : Int) := by
              have := int_word (w := TL.tl w) (List.all_eq_true.mp k3) k2 (by omega)
              rwa [strOf_tl] at this
            have hzero : (V.str w = V.str (Str.ofString "0")) ↔ TL.tl w = [48] := ⟨fun z => by
              rw [V.str.inj z]
              decide +kernel, fun z => congrArg V.str (str_ext (z.trans (by decide +kernel)))⟩
            have fin : canon (TL.tl w) = true → Dp K H8 (.int ((valOf (TL.tl w) : Nat) : Int)) (numPart ps i (.str w)) := fun hc => by
              rw [show numPart ps i (.str w) = .int ((valOf (TL.tl w) : Nat) : Int) from if_pos ⟨k1, hc⟩]
              exact .int _
            have hcan : (TL.tl w = [48] ∨ (TL.tl w).headD 0 ≠ 48) → canon (TL.tl w) = true := fun z => by
              unfold canon
              rw [Bool.and_eq_true, Bool.and_eq_true, Bool.or_eq_true, decide_eq_true_eq, decide_eq_true_eq, decide_eq_true_eq]
              exact ⟨⟨k2, k3⟩, z⟩
            refine ⟨_, rfl, rfl, _, rfl, ?_⟩
            refine ite2 (fun c2 => ?_) (fun c2 => ?_)
            · refine iteT ?_
              refine ⟨_, rfl, w, _, rfl, hint, h640, ?_⟩
              exact hN _ _ ⟨_, _, rfl, e8, fin (hcan (.inl (hzero.mp (of_decide_eq_true c2))))⟩
            · obtain ⟨c, t, hct⟩ : ∃ c t, TL.tl w = c :: t := by
                cases hq : TL.tl w with
                | nil => exact absurd hq k2
                | cons c t => exact ⟨c, t, rfl⟩
              refine ⟨_, rfl, w, _, c, rfl, rfl, Nat.le_trans (show w.length ≤ 100000 by omega) (by decide), atI_nat (j := 0) (by show (TL.tl w)[0]? = some c; rw [hct]; rfl), ?_⟩
              refine ⟨rfl, _, rfl, ?_⟩
              have hc48 : (V.str ⟨#[c]⟩ = V.str (Str.ofString "0")) ↔ c = 48 := by
                rw [show Str.ofString "0" = (⟨#[48]⟩ : Str) by decide +kernel]
                constructor
                · intro z
                  have := V.str.inj z
                  simpa using this
                · rintro rfl
                  rfl
              refine ite2 (fun c3 => ?_) (fun c3 => ?_)
              · have hne : c ≠ 48 := fun z => by
                  rw [decide_eq_true (hc48.mpr z)] at c3
                  cases c3
                refine ⟨_, rfl, w, _, rfl, hint, h640, ?_⟩
                exact hN _ _ ⟨_, _, rfl, e8, fin (hcan (.inr (by rw [hct]; exact hne)))⟩
              · have he : c = 48 := by
                  by_cases z : c = 48
                  · exact z
                  · rw [decide_eq_false (fun y => z (hc48.mp y))] at c3
                    exact absurd rfl c3
                refine ⟨_, rfl, ?_⟩
                refine hN _ _ ⟨_, _, rfl, e8, ?_⟩
                have hno : ¬ (i ∈ ps ∧ canon (TL.tl w) = true) := fun ⟨_, z2⟩ => by
                  unfold canon at z2
                  rw [Bool.and_eq_true, Bool.or_eq_true, decide_eq_true_eq, decide_eq_true_eq] at z2
                  rcases z2.2 with z | z
                  · exact c2 (decide_eq_true (hzero.mpr z))
                  · rw [hct] at z
                    exact z he
                rw [show numPart ps i (.str w) = .str w from if_neg hno]
                exact .str _
          · refine hN _ _ ⟨_, _, rfl, e8, ?_⟩
            have hno : ¬ (i ∈ ps ∧ canon (TL.tl w) = true) := fun ⟨z1, z2⟩ => c1 (by
              unfold canon at z2
              rw [Bool.and_eq_true] at z2
              rw [decide_eq_true z1, Bool.true_and]
              exact z2.1)
            rw [show numPart ps i (.str w) = .str w from if_neg hno]
            exact .str _
        | _ => simp [treeB] at htd
      · rintro σ' H7 ⟨v', y5, rfl, e7, hv'⟩
        have hL7 := e7 _ _ hL6
        have hacc7 := e7.dpAll hacc
        refine ⟨_, rfl, .inl ⟨rfl, _, .of hL7⟩, _, rfl, L, _, _, rfl, rfl, hL7, Nat.lt_of_le_of_lt hti5 (by decide), ?_⟩
        have hne : ap ≠ L := fun z => by
          rw [z, hL6] at hpt6
          cases hpt6
        refine ⟨accv ++ [v'], _, _, _, rfl, Ex.mut (e6.trans e7) nLH, upd_same, by rw [upd_ne hne]; exact e7 _ _ hpt6, ?_⟩
        rw [hti]
        exact dpAll_app (dpAll_lst hL7 Exb.put (noLs_take i hnl0) hacc7) (.cons (dp_lst hL7 Exb.put hnp hv') .nil)
    · rintro σ H6 ⟨accv, y3, y4, y5, rfl, e6, hL6, hpt6, hacc⟩
      rw [hxl, List.take_of_length_le (by rw [numAll_len]; exact Nat.le_refl _)] at hacc
      refine ⟨_, rfl, L, _, rfl, .of hL6, nT_intro fun p7 H7 n7 e7 h7 => ?_⟩
      exact q _ _ (e6.trans e7) (.tup (.of h7) (e7.dpAll hacc))
theorem ok__law_numbereds {f : Addr} {fd : FuncData} (F : Fun K "_law_numbered" "_law_numbered" s__law_numbered f fd) (B : Blt mg) (hm : mg "_law_numbered" = some (.ref f)) (hk : PySem.W.keepIn K (.ref f) = true) (hb : Binds K fd ["_law_beat_here"] []) : ∀ n, Dn P w K mg base n "_law_numbered" (spNumbered K n)
  | 0 => .of (FnOk.imp never_ok fun _ _ _ _ h => by
      obtain ⟨_, _, _, _, _, _, h0, _⟩ := h
      rw [PyData.depth] at h0
      exact absurd h0 (Nat.not_succ_le_zero _)) hm hk hb
  | n + 1 => .of0 (step__law_numbered F B (ok__law_numbereds F B hm hk hb n)) hm hk hb


/-! ### the law's reader, and the reader's answer (k16) -/
theorem fine_node {w : Str} {r : List PyData} (hl : PyData.canLay0 (.tuple (.str w :: r)) = true) (hd : PyData.depth (.tuple (.str w :: r)) ≤ 63) (ht : (PyData.str w :: r).all textSmall = true) (hf : ∀ d ∈ r, fine d = true) (hw : PyData.strOk w = true) : fine (.tuple (.str w :: r)) = true := by
  have all : ∀ l : List PyData, (∀ d ∈ l, fine d = true) → fineAll l = true := by
    intro l
    induction l with
    | nil => intro _; rw [fineAll]
    | cons x t ih => intro h; rw [fineAll, h x List.mem_cons_self, ih fun y hy => h y (List.mem_cons_of_mem _ hy)]; rfl
  rw [fine, all _ fun d hd => ?_, Bool.and_true]
  · unfold finB dGood
    rw [Bool.and_eq_true, Bool.and_eq_true, Bool.and_eq_true, decide_eq_true_eq]
    exact ⟨⟨⟨shaped_iff.mpr ⟨hl, by omega⟩, rfl⟩, ht⟩, hd⟩
  · rcases List.mem_cons.mp hd with rfl | hd
    · exact fine_str hw
    · exact hf d hd
/-- what the reader tells -/
structure ReadOk (d : PyData) (n : Nat) : Prop where
  fine : TD.fine d = true
  lay : PyData.canLay0 d = true
  depth : PyData.depth d ≤ n
  tup : ∃ ds, d = .tuple ds
theorem small_tup {d : PyData} {n : Nat} (h : ReadOk d n) : textSmall d = true := by
  obtain ⟨ds, rfl⟩ := h.tup
  rfl
theorem inner_ok {T : List Nat} {rd : Nat → Nat → Got} {n : Nat} (S : ∀ p m d q m', rd p m = some (d, q, m') → ReadOk d n) {p m m' q : Nat} {d : PyData} (h : innerR T rd p m = some (d, q, m')) : ReadOk d n := by
  unfold innerR at h
  obtain ⟨p1, _, h2⟩ := Option.bind_eq_some_iff.mp h
  exact S _ _ _ _ _ h2
theorem word_lay : PyData.strOk "every" = true ∧ PyData.strOk "gate" = true ∧ PyData.strOk "later" = true ∧ PyData.strOk "led" = true ∧ (∀ v : Two, PyData.strOk v.word = true) ∧ (∀ w : Str, w.length ≤ 1000000 → PyData.strOk w = true → textSmall (.str w) = true) ∧ (∀ v : Two, v.word.length ≤ 1000000) := by
  refine ⟨by decide +kernel, by decide +kernel, by decide +kernel, by decide +kernel, fun v => by cases v <;> decide +kernel, fun w h1 h2 => ?_, fun v => by cases v <;> decide +kernel⟩
  show (decide (w.length ≤ 1000000) && PyData.strOk w) = true
  rw [decide_eq_true h1, h2]
  rfl
theorem tup_ok {w : Str} {r : List PyData} {n : Nat} (hn : n + 1 ≤ 63) (hw : PyData.strOk w = true) (hl : w.length ≤ 1000000) (hr : ∀ d ∈ r, fine d = true ∧ PyData.canLay0 d = true ∧ PyData.depth d ≤ n ∧ textSmall d = true) : ReadOk (.tuple (.str w :: r)) (n + 1) := by
  have hd : PyData.depthAll r ≤ n := depthAll_mem fun d hd => (hr d hd).2.2.1
  have lay : ∀ l : List PyData, (∀ d ∈ l, PyData.canLay0 d = true) → PyData.canLayAll0 l = true := by
    intro l
    induction l with
    | nil => intro _; rw [PyData.canLayAll0]
    | cons x t ih => intro h; rw [PyData.canLayAll0, h x List.mem_cons_self, ih fun y hy => h y (List.mem_cons_of_mem _ hy)]; rfl
  have h1 : PyData.canLay0 (.tuple (.str w :: r)) = true := by
    rw [PyData.canLay0, PyData.canLayAll0, lay r fun d hd => (hr d hd).2.1, PyData.canLay0, hw]
    rfl
  have h2 : PyData.depth (.tuple (.str w :: r)) ≤ n + 1 := by
    have : PyData.depth (.str w) = 0 := by simp [PyData.depth]
    rw [PyData.depth, PyData.depthAll, this]
    omega
  refine ⟨fine_node h1 (by omega) ?_ (fun d hd => (hr d hd).1) hw, h1, h2, _, rfl⟩
  rw [List.all_cons, word_lay.2.2.2.2.2.1 w hl hw, Bool.true_and]
  exact List.all_eq_true.mpr fun d hd => (hr d hd).2.2.2
theorem part_int (i : Int) (n : Nat) : fine (.int i) = true ∧ PyData.canLay0 (.int i) = true ∧ PyData.depth (.int i) ≤ n ∧ textSmall (.int i) = true := ⟨fine_int i, by rw [PyData.canLay0], by simp [PyData.depth], rfl⟩
theorem part_sub {d : PyData} {n : Nat} (h : ReadOk d n) : fine d = true ∧ PyData.canLay0 d = true ∧ PyData.depth d ≤ n ∧ textSmall d = true := ⟨h.fine, h.lay, h.depth, small_tup h⟩
theorem part_word {T : List Nat} (h : TextOk T) {ok : Nat → Bool} {p n : Nat} : fine (.str ⟨(wordR T ok p).toArray⟩) = true ∧ PyData.canLay0 (.str ⟨(wordR T ok p).toArray⟩) = true ∧ PyData.depth (.str ⟨(wordR T ok p).toArray⟩) ≤ n ∧ textSmall (.str ⟨(wordR T ok p).toArray⟩) = true := by
  have hl : leafOk (TL.tl (⟨(wordR T ok p).toArray⟩ : Str)) = true := leaf_word h
  exact ⟨fine_leaf hl, by rw [PyData.canLay0]; exact ascii_str (leaf_ascii hl).1, by simp [PyData.depth], leaf_small hl⟩
theorem parts_ok {T : List Nat} (hT : TextOk T) {rd : Nat → Nat → Got} {n : Nat} (hn : n + 1 ≤ 63) (S : ∀ p m d q m', rd p m = some (d, q, m') → ReadOk d n) {w : List Nat} {p m m' q : Nat} {d : PyData} (h : partsR T rd w p m = some (d, q, m')) : ReadOk d (n + 1) := by
  obtain ⟨w1, w2, w3, w4, w5, _, w7⟩ := word_lay
  unfold partsR at h
  split at h
  · obtain ⟨⟨n1, q1⟩, h1, h⟩ := Option.bind_eq_some_iff.mp h
    obtain ⟨⟨n2, q2⟩, h2, h⟩ := Option.bind_eq_some_iff.mp h
    obtain ⟨⟨d3, q3, m3⟩, h3, h⟩ := Option.map_eq_some_iff.mp h
    cases h
    refine tup_ok hn w1 (by decide +kernel) fun x hx => ?_
    simp only [List.mem_cons, List.not_mem_nil, or_false] at hx
    rcases hx with rfl | rfl | rfl
    · exact part_int _ _
    · exact part_int _ _
    · exact part_sub (inner_ok S h3)
  split at h
  · obtain ⟨⟨n1, q1⟩, h1, h⟩ := Option.bind_eq_some_iff.mp h
    obtain ⟨⟨d3, q3, m3⟩, h3, h⟩ := Option.map_eq_some_iff.mp h
    cases h
    unfold signsR at h1
    obtain ⟨p1, _, h1⟩ := Option.map_eq_some_iff.mp h1
    cases h1
    refine tup_ok hn w2 (by decide +kernel) fun x hx => ?_
    simp only [List.mem_cons, List.not_mem_nil, or_false] at hx
    rcases hx with rfl | rfl
    · exact part_word hT
    · exact part_sub (inner_ok S h3)
  split at h
  · obtain ⟨⟨n1, q1⟩, h1, h⟩ := Option.bind_eq_some_iff.mp h
    obtain ⟨⟨d3, q3, m3⟩, h3, h⟩ := Option.map_eq_some_iff.mp h
    cases h
    refine tup_ok hn w3 (by decide +kernel) fun x hx => ?_
    simp only [List.mem_cons, List.not_mem_nil, or_false] at hx
    rcases hx with rfl | rfl
    · exact part_int _ _
    · exact part_sub (inner_ok S h3)
  split at h
  · obtain ⟨⟨d1, q1, m1⟩, h1, h⟩ := Option.bind_eq_some_iff.mp h
    obtain ⟨⟨n2, q2⟩, h2, h⟩ := Option.bind_eq_some_iff.mp h
    obtain ⟨⟨d3, q3, m3⟩, h3, h⟩ := Option.bind_eq_some_iff.mp h
    obtain ⟨⟨n4, q4⟩, h4, h⟩ := Option.map_eq_some_iff.mp h
    cases h
    refine tup_ok hn w4 (by decide +kernel) fun x hx => ?_
    simp only [List.mem_cons, List.not_mem_nil, or_false] at hx
    rcases hx with rfl | rfl | rfl | rfl
    · exact part_sub (inner_ok S h1)
    · exact part_int _ _
    · exact part_sub (inner_ok S h3)
    · exact part_int _ _
  · obtain ⟨v, hv, h⟩ := Option.bind_eq_some_iff.mp h
    obtain ⟨⟨d1, q1, m1⟩, h1, h⟩ := Option.bind_eq_some_iff.mp h
    obtain ⟨⟨d3, q3, m3⟩, h3, h⟩ := Option.map_eq_some_iff.mp h
    cases h
    refine tup_ok hn (w5 v) (w7 v) fun x hx => ?_
    simp only [List.mem_cons, List.not_mem_nil, or_false] at hx
    rcases hx with rfl | rfl
    · exact part_sub (inner_ok S h1)
    · exact part_sub (inner_ok S h3)
theorem read_ok {T : List Nat} (hT : TextOk T) : ∀ k, k ≤ 60 → ∀ p m d q m', beatR k T p m = some (d, q, m') → ReadOk d (k + 1)
  | 0, _, p, m, d, q, m', h => by cases h
  | k + 1, hk, p, m, d, q, m', h => by
    unfold beatR at h
    split at h
    · cases h
    split at h
    · obtain ⟨⟨d1, q1, m1⟩, h1, h⟩ := Option.bind_eq_some_iff.mp h
      obtain ⟨q2, h2, h⟩ := Option.map_eq_some_iff.mp h
      cases h
      exact parts_ok hT (n := k + 1) (by omega) (fun p m d q m' e => read_ok hT k (by omega) p m d q m' e) h1
    split at h
    · cases h
      exact tup_ok (n := k + 1) (by omega) (by decide +kernel) (by decide +kernel) fun d hd => by cases hd
    · cases h
theorem parsed_tup {n : Nat} {T : List Nat} {p q : Nat} {d : PyData} (h : parsedR n T p = some (d, q)) : ∃ ds, d = .tuple ds := by
  cases n with
  | zero => cases h
  | succ n =>
    unfold parsedR at h
    split at h
    · cases h
      exact ⟨_, rfl⟩
    split at h
    · obtain ⟨vs, e, _⟩ := items_sound (parsed_sound T n) _ _ _ _ _ h
      exact ⟨_, e⟩
    · cases h
def DueV (K : PySem.W.Frag) (H : Hp) (v : V) : Option PyData → Prop
  | none => v = .non
  | some d => Dp K H v d
theorem sc__law_due : FnScope ["_law_text_here", "_law_found", "_law_beat_here"] ["_law_text_here"] (defScope s__law_due) := ⟨rfl, rfl, rfl, by decide +kernel, rfl, by decide +kernel, by decide +kernel⟩
def spDue16 (K : PySem.W.Frag) : Sp := fun vs H Q _ => ∃ (T : Str), vs = [.str T] ∧ TextOk (TL.tl T) ∧ opensT (TL.tl T) < 60 ∧ ∀ v H', Ex H H' → DueV K H' v (dueL (TL.tl T)) → Q v H'
theorem ok__law_due16 {f : Addr} {fd : FuncData} (F : Fun K "_law_due" "_law_due" s__law_due f fd) (B : Blt mg) (c__law_parsed : Dn P w K mg base 60 "_law_parsed" (spParsed K 60)) (c__law_numbered : Dn P w K mg base 60 "_law_numbered" (spNumbered K 60)) (c__law_counted : Dn P w K mg base 63 "_law_counted" (spCounted K 61)) :
    FnOk P w K mg base CX0 64 f fd ["_law_text_here"] (spDue16 K) := by
  have nd := sc__law_due.nd
  refine F.ok sc__law_due (fun vs H Q E h => ?_) (fun cdv A outer s H vs Q E hr h => ?_)
  · obtain ⟨T, rfl, _⟩ := h
    rfl
  · obtain ⟨T, rfl, hT, ho, q⟩ := h
    have hTl : T.length = (TL.tl T).length := TL.len_tl T
    have hTn := hT.len
    have hsz : T.length ≤ sizeLine := Nat.le_trans (show T.length ≤ 100000 by omega) (by decide)
    refine ⟨_, 
    (pss_cons (ps_set (i := 1) nd rfl (Or.inl rfl) (pe_d c__law_parsed hr (by decide) passL (by rfl) (pa_cons (pv 0) (pa_cons pe_int pa_nil))))
    (pss_cons (ps_if (PW.pt (pw_or (pt_cmpR op_isN (pv 1) pe_non (nomark _)) (pw_or1 (pt_cmpR op_ne (pe_ix (ixt (K := K) rfl) (pv 1) pe_int (fun _ _ => rfl)) (pe_callB call_len_str (by rfl) B.len PySem.boot_len (pa_cons (pv 0) pa_nil)) (nomark _))))) (pss_one (ps_ret pe_non)) pss_nil)
    (pss_cons (ps_set (i := 2) nd rfl (Or.inl rfl) (pe_d c__law_numbered hr (by decide) passL (by rfl) (pa_cons (pe_ix (ixt (K := K) rfl) (pv 1) pe_int (fun _ _ => rfl)) pa_nil)))
    (pss_one (ps_ret (pe_ifExp (pt_cmpR op_le (pe_d c__law_counted hr (by decide) passL (by rfl) (pa_cons (pv 2) pa_nil)) pe_int (nomark _)) (pv 2) pe_non)))))), ?_⟩
    try dsimp only [cxOf, Cx.nox, Cx.wish]
    walk_at "norm"
    refine ⟨_, rfl, T, 0, rfl, hT, Nat.zero_le _, ho, fun v H1 e1 hv => ?_⟩
    unfold dueL at q
    cases hpr : parsedR 60 (TL.tl T) 0 with
    | none =>
      rw [hpr] at hv q
      have hv : v = .non := hv
      subst hv
      refine ⟨_, rfl, rfl, _, rfl, ?_⟩
      refine ite2 (fun _ => ?_) (fun z => absurd (decide_eq_true rfl) z)
      refine iteT ?_
      exact q _ _ e1 rfl
    | some x =>
      obtain ⟨d, qq⟩ := x
      rw [hpr] at hv q
      obtain ⟨a, w0, rfl, ha, hw⟩ := hv
      obtain ⟨td, tdep⟩ := parsed_tree hT 60 0 d qq hpr
      have hat := parsed_sound (TL.tl T) 60 0 d qq hpr
      obtain ⟨ds, rfl⟩ := parsed_tup hpr
      have hle := hat.le (Nat.zero_le _)
      have hge := hat.2
      refine ⟨_, rfl, rfl, _, rfl, ?_⟩
      refine ite2 (fun z => absurd (of_decide_eq_true z) (by simp)) (fun _ => ?_)
      refine ⟨_, rfl, a, _, _, _, rfl, rfl, .of ha, rfl, ?_⟩
      refine ⟨_, rfl, T, rfl, hsz, rfl, _, rfl, ?_⟩
      refine ite2 (fun c => ?_) (fun c => ?_)
      · have c : ¬ qq = (TL.tl T).length := fun z => by
          rw [decide_eq_true (show V.int ((qq : Nat) : Int) = V.int (T.length : Int) from by rw [z, hTl])] at c
          cases c
        refine q _ _ e1 ?_
        show DueV K H1 .non (if qq = (TL.tl T).length ∧ isBeatD (numD (.tuple ds)) = true then _ else none)
        rw [if_neg (fun z => c z.1)]
        rfl
      · have c : qq = (TL.tl T).length := by
          by_cases z : qq = (TL.tl T).length
          · exact z
          · rw [decide_eq_false (fun y => z (by have := V.int.inj y; omega))] at c
            exact absurd rfl c
        refine ⟨_, rfl, a, _, _, _, rfl, rfl, .of ha, rfl, ?_⟩
        rw [treeB] at td
        refine ⟨w0, ds, rfl, hw, td, by omega, tdep, fun v2 H2 e2 hv2 => ?_⟩
        have tdB : treeB (.tuple ds) = true := by rw [treeB]; exact td
        obtain ⟨u1, u2, u3⟩ := tree_num _ tdB
        refine ⟨_, rfl, v2, _, rfl, hv2, fine_num _ tdB (by omega), u2, by omega, fun H3 e3 => ?_⟩
        have hv3 := e3.dp hv2
        refine ⟨_, _, rfl, rfl, _, rfl, ?_⟩
        have hq2 : (if qq = (TL.tl T).length ∧ isBeatD (numD (.tuple ds)) = true then some (numD (.tuple ds)) else none) = if isBeatD (numD (.tuple ds)) = true then some (numD (.tuple ds)) else none := by
          by_cases z : isBeatD (numD (.tuple ds)) = true
          · rw [if_pos ⟨c, z⟩, if_pos z]
          · rw [if_neg (fun y => z y.2), if_neg z]
        have q := q
        have q2 : ∀ v H', Ex H H' → DueV K H' v (if isBeatD (numD (.tuple ds)) = true then some (numD (.tuple ds)) else none) → Q v H' := fun v H' e h => q v H' e (by
          show DueV K H' v (if qq = (TL.tl T).length ∧ isBeatD (numD (.tuple ds)) = true then _ else none)
          rw [hq2]
          exact h)
        have hci := count_is (numD (.tuple ds))
        refine ite2 (fun c2 => ?_) (fun c2 => ?_)
        · refine ⟨_, rfl, ?_⟩
          refine q2 _ _ (e1.trans (e2.trans e3)) ?_
          have c2 : ((countN (numD (.tuple ds)) : Nat) : Int) ≤ 30 := of_decide_eq_true c2
          rw [decide_eq_true (by omega)] at hci
          rw [← hci, if_pos rfl]
          exact hv3
        · refine q2 _ _ (e1.trans (e2.trans e3)) ?_
          have c2 : ¬ ((countN (numD (.tuple ds)) : Nat) : Int) ≤ 30 := fun z => c2 (decide_eq_true z)
          rw [decide_eq_false (by omega)] at hci
          rw [← hci, if_neg (by decide)]
          rfl
theorem kind_five {CB C0 C1 C2 C3 C4 C5 : Addr} (KA : KindAt K CB C0 C1 C2 C3 C4 C5 C5 5) : PySem.W.kitAny K (.ref C5) ([C3, C2, C0, C4, C1].map Value.ref) = some false := by
  have k0 := KA.k0
  have k1 := KA.k1
  have k2 := KA.k2
  have k3 := KA.k3
  have k4 := KA.k4
  simp only [List.map_cons, List.map_nil, PySem.W.kitAny, k0, k1, k2, k3, k4]
  rfl
def toldTs (K : PySem.W.Frag) (CB C0 C1 C2 C3 C4 C5 : Addr) : Addr → Value → Option Addr → TS := fun a cls d Dn σ H => cls = .ref C5 ∧ d = none ∧ ∃ (T : Str) (y : Option V), σ = [some (.str T), some (.ref a), y] ∧ ∀ H', Ex H H' → Dn.rt .non H'
theorem sc__law_told : FnScope ["_law_text_here", "e", "_law_other"] ["_law_text_here"] (defScope s__law_told) := ⟨rfl, rfl, rfl, by decide +kernel, rfl, by decide +kernel, by decide +kernel⟩
def spTold16 (K : PySem.W.Frag) : Sp := fun vs H Q _ => ∃ (T : Str), vs = [.str T] ∧ TextOk (TL.tl T) ∧ ∀ v H', Ex H H' → DueV K H' v (readD (TL.tl T)) → Q v H'
theorem ok__law_told16 {f CB C0 C1 C2 C3 C4 C5 : Addr} {fd : FuncData} (F : Fun K "_law_told" "_law_told" s__law_told f fd) (B : Blt mg) (KC : KindCs mg CB C0 C1 C2 C3 C4 C5) (KA : KindAt K CB C0 C1 C2 C3 C4 C5 C5 5)
    (c_read : Dn P w K mg base 98 "read" (spRead K C5)) : FnOk P w K mg base CX0 99 f fd ["_law_text_here"] (spTold16 K) := by
  have nd := sc__law_told.nd
  refine F.ok sc__law_told (fun vs H Q E h => ?_) (fun cdv A outer s H vs Q E hr h => ?_)
  · obtain ⟨T, rfl, _⟩ := h
    rfl
  · obtain ⟨T, rfl, hT, q⟩ := h
    have mVE := KC.v
    have g_NoBeat := KC.n0
    have g_TooLong := KC.n1
    have g_Ends := KC.n2
    have g_BadStock := KC.n3
    have g_NoWish := KC.n4
    have g_NoNote := KC.n5
    refine ⟨_, 
    (pss_one (ps_try_as (i := 1) (c := .ref CB) (ts := toldTs K CB C0 C1 C2 C3 C4 C5) rfl rfl nd rfl rfl ⟨rfl, by decide, .inl KC.b⟩ takes0
      (fun W pn xe tk _ => (pss_one (ps_ret (pe_dS c_read hr (by decide) (fun σ => passAt tk σ) (by rfl) (pa_cons (pv 0) pa_nil)))))
      (fun a oe cls d pn hz hf => ?_))), ?_⟩
    · refine TD.PSs.case fun Dn σ' H' h' => ?_
      obtain ⟨rfl, rfl, T, y, rfl, hq⟩ := h'
      have hC := KA.c
      have hod : ∀ {H2 : Hp}, OdAt H2 none := fun _ e2 => by cases e2
      refine ⟨_, (pss_cons (ps_set (i := 2) nd rfl (Or.inl rfl) (pe_callB (call_isOT hC hz hf) (by rfl) B.isinstance bt_isinstance (pa_cons (pv 1) (pa_cons (pe_tupN (pa_cons (pe_gl rfl g_BadStock) (pa_cons (pe_gl rfl g_Ends) (pa_cons (pe_gl rfl g_NoBeat) (pa_cons (pe_gl rfl g_NoWish) (pa_cons (pe_gl rfl g_TooLong) pa_nil)))))) pa_nil))))
    (pss_one (ps_ret (pe_ifExp (PW.pt (pw_and (pt_val (pe_callB (call_isO hC hz hf) (by rfl) B.isinstance bt_isinstance (pa_cons (pv 1) (pa_cons (pe_gl rfl g_NoNote) pa_nil)))) (pw_and (pt_val (pe_callB (call_isO hC hz hf) (by rfl) B.isinstance bt_isinstance (pa_cons (pv 1) (pa_cons (pe_bltn (v := .ty "ValueError") (u := Value.type "ValueError") (by rfl) mVE bt_VE rfl) pa_nil)))) (pw_and1 (pt_not (pt_val (pv 2))))))) pe_non pe_str)))), ?_⟩
      refine ⟨_, rfl, ?_⟩
      refine ⟨Nat.le_trans (show 5 ≤ 100000 by decide) (by decide), nT_intro fun tp H1 np e1 htp => ?_⟩
      refine ⟨tp, [C3, C2, C0, C4, C1], false, rfl, htp, hod, kind_five KA, ?_⟩
      refine ⟨_, rfl, .ref C5, .ref C5, true, rfl, fun u hu => hu, hod, KA.k5, ?_⟩
      refine ⟨_, rfl, iteT ?_⟩
      refine ⟨_, rfl, .ty "ValueError", .type "ValueError", true, rfl, fun u hu => hu, hod, KA.v, ?_⟩
      refine ⟨_, rfl, iteT ?_⟩
      refine ⟨_, rfl, false, rfl, iteT ?_⟩
      exact hq _ e1
    · refine ⟨_, rfl, T, rfl, Nat.le_trans hT.len (by decide), fun d q m e => (read_ok hT 31 (by decide) _ _ _ _ _ e).fine, fun d hd v H1 e1 hv => ?_, fun hn H1 e1 => ?_⟩
      · refine q _ _ e1 ?_
        rw [hd]
        exact hv
      · refine ⟨true, KA.b, fun _ a na => ?_, fun z => nomatch z⟩
        refine ⟨rfl, rfl, T, _, rfl, fun H2 e2 => q _ _ (e1.trans e2) ?_⟩
        rw [hn]
        rfl


/-! ### a text changed (k16) -/
theorem runs_mono {R S : Nat} {T : List Nat} (h : Runs R T) (hs : R ≤ S) : Runs S T := fun a w b e hw => Nat.le_trans (h a w b e hw) hs
theorem runs_len {R : Nat} {T : List Nat} (h : T.length ≤ R) : Runs R T := fun a w b e _ => by
  have := congrArg List.length e
  rw [List.length_append, List.length_append] at this
  omega
theorem runs_sub {R : Nat} {T A : List Nat} (h : Runs R T) {x y : List Nat} (e : T = x ++ (A ++ y)) : Runs R A := fun a w b e2 hw => by
  refine h (x ++ a) w (b ++ y) ?_ hw
  rw [e, e2]
  simp
theorem runs_app {R S : Nat} {A B : List Nat} (ha : Runs R A) (hb : Runs S B) : Runs (R + S) (A ++ B) := fun a w b e hw => by
  rcases List.append_eq_append_iff.mp e with ⟨a', h1, h2⟩ | ⟨a', h1, h2⟩
  · have := hb a' w b h2 hw
    omega
  · rcases List.append_eq_append_iff.mp h2 with ⟨c', h3, h4⟩ | ⟨c', h3, h4⟩
    · have := ha a w c' (by rw [h1, h3]) hw
      omega
    · have h5 := ha a a' [] (by rw [h1, List.append_nil]) (fun c hc => hw c (by rw [h3]; exact List.mem_append_left _ hc))
      have h6 := hb [] c' b h4 (fun c hc => hw c (by rw [h3]; exact List.mem_append_right _ hc))
      rw [h3, List.length_append]
      omega
theorem runs_sep {R c : Nat} {A B : List Nat} (ha : Runs R A) (hb : Runs R B) (hc : isFig c = false) : Runs R (A ++ c :: B) := fun a w b e hw => by
  rcases List.append_eq_append_iff.mp e with ⟨a', h1, h2⟩ | ⟨a', h1, h2⟩
  · cases a' with
    | nil =>
      cases w with
      | nil => exact Nat.zero_le _
      | cons x t =>
        have : c = x := (List.cons.inj h2).1
        have h3 := hw x List.mem_cons_self
        rw [← this, hc] at h3
        cases h3
    | cons x t => exact hb t w b (List.cons.inj h2).2 hw
  · rcases List.append_eq_append_iff.mp h2 with ⟨c', h3, h4⟩ | ⟨c', h3, h4⟩
    · exact ha a w c' (by rw [h1, h3]) hw
    · cases c' with
      | nil =>
        rw [List.append_nil] at h3
        rw [h3] at hw ⊢
        exact ha a a' [] (by rw [h1, List.append_nil]) hw
      | cons x t =>
        have hx : c = x := (List.cons.inj h4).1
        have h5 := hw x (by rw [h3]; exact List.mem_append_right _ List.mem_cons_self)
        rw [← hx, hc] at h5
        cases h5
/-- a text after so many changes -/
structure Gd (i : Nat) (T : List Nat) : Prop where
  code : ∀ c ∈ T, c < 128
  len : T.length + 9 ≤ 460 * 2 ^ i
  opens : T.count 40 ≤ 7 * 2 ^ i
  runs : Runs (13 * 2 ^ i - 1) T
theorem gd_ok {i : Nat} {T : List Nat} (h : Gd i T) (hi : i ≤ 3) : TextOk T ∧ opensT T < 60 := by
  have hp : 2 ^ i ≤ 2 ^ 3 := Nat.pow_le_pow_right (by decide) hi
  have h1 := h.len
  have h2 := h.opens
  exact ⟨⟨h.code, by omega, runs_mono h.runs (by omega)⟩, by unfold opensT; omega⟩
theorem gd_up {i : Nat} {T : List Nat} (h : Gd i T) : Gd (i + 1) T := by
  have hp : 2 ^ (i + 1) = 2 * 2 ^ i := by rw [Nat.pow_succ, Nat.mul_comm]
  have h1 := h.len
  have h2 := h.opens
  exact ⟨h.code, by omega, by omega, runs_mono h.runs (by omega)⟩
theorem take_infix {T : List Nat} (a : Nat) : T = [] ++ (T.take a ++ T.drop a) := (List.take_append_drop a T).symm
theorem drop_infix {T : List Nat} (a : Nat) : T = T.take a ++ (T.drop a ++ []) := by rw [List.append_nil]; exact (List.take_append_drop a T).symm
theorem gd_mid {i a b : Nat} {T s : List Nat} (h : Gd i T) (hs : ∀ c ∈ s, c < 128) (hl : s.length ≤ 1) (hab : s = [] ∨ a ≤ b) : Gd (i + 1) (T.take a ++ (s ++ T.drop b)) := by
  have hp : 2 ^ (i + 1) = 2 * 2 ^ i := by rw [Nat.pow_succ, Nat.mul_comm]
  have p1 : 1 ≤ 2 ^ i := Nat.pow_pos (by decide)
  have h1 := h.len
  have h2 := h.opens
  have c1 : (T.take a).count 40 ≤ T.count 40 := (List.take_sublist a T).count_le 40
  have c2 : (T.drop b).count 40 ≤ T.count 40 := (List.drop_sublist b T).count_le 40
  have c3 : s.count 40 ≤ s.length := List.count_le_length
  refine ⟨fun c hc => ?_, ?_, ?_, ?_⟩
  · rcases List.mem_append.mp hc with hc | hc
    · exact h.code c (List.mem_of_mem_take hc)
    · rcases List.mem_append.mp hc with hc | hc
      · exact hs c hc
      · exact h.code c (List.mem_of_mem_drop hc)
  · rw [List.length_append, List.length_append, List.length_take, List.length_drop]
    omega
  · rw [List.count_append, List.count_append]
    rcases hab with rfl | hab
    · simp only [List.count_nil]
      omega
    · have c4 : (T.take a).count 40 + (T.drop b).count 40 ≤ T.count 40 := by
        have := congrArg (List.count 40) (List.take_append_drop a T)
        rw [List.count_append] at this
        have c5 : (T.drop b).count 40 ≤ (T.drop a).count 40 := opens_le hab
        omega
      omega
  · have r1 := runs_sub h.runs (take_infix a)
    have r2 := runs_sub h.runs (drop_infix b)
    exact runs_mono (runs_app r1 (runs_app (runs_len (R := 1) hl) r2)) (by omega)
/-! words put together with blanks -/
def joinB : List (List Nat) → List Nat := TL.joinL [32]
theorem joinB_cons (x y : List Nat) (r : List (List Nat)) : joinB (x :: y :: r) = x ++ 32 :: joinB (y :: r) := rfl
theorem joinB_len : ∀ (x : List Nat) (r : List (List Nat)), (joinB (x :: r)).length + 1 = ((x :: r).map fun w => w.length + 1).sum
  | x, [] => by show x.length + 1 = x.length + 1 + 0; omega
  | x, y :: r => by
    have := joinB_len y r
    rw [joinB_cons, List.length_append, List.length_cons, List.map_cons, List.sum_cons, ← this]
    omega
theorem joinB_count : ∀ r : List (List Nat), (joinB r).count 40 = (r.map fun w => w.count 40).sum
  | [] => rfl
  | [x] => by show x.count 40 = x.count 40 + 0; omega
  | x :: y :: r => by
    rw [joinB_cons, List.count_append, List.count_cons, joinB_count (y :: r), List.map_cons, List.sum_cons]
    simp
theorem joinB_code {P : Nat → Prop} (h32 : P 32) : ∀ {r : List (List Nat)}, (∀ w ∈ r, ∀ c ∈ w, P c) → ∀ c ∈ joinB r, P c
  | [], _, c, hc => by cases hc
  | [x], h, c, hc => h x (List.mem_singleton_self _) c hc
  | x :: y :: r, h, c, hc => by
    rw [joinB_cons] at hc
    rcases List.mem_append.mp hc with hc | hc
    · exact h x List.mem_cons_self c hc
    · rcases List.mem_cons.mp hc with rfl | hc
      · exact h32
      · exact joinB_code h32 (fun w hw => h w (List.mem_cons_of_mem _ hw)) c hc
theorem joinB_runs {R : Nat} : ∀ {r : List (List Nat)}, (∀ w ∈ r, Runs R w) → Runs R (joinB r)
  | [], _ => runs_len (Nat.zero_le _)
  | [x], h => h x (List.mem_singleton_self _)
  | x :: y :: r, h => by
    rw [joinB_cons]
    exact runs_sep (h x List.mem_cons_self) (joinB_runs fun w hw => h w (List.mem_cons_of_mem _ hw)) (by decide)
theorem joinB_infix : ∀ {r : List (List Nat)} {w : List Nat}, w ∈ r → ∃ x y, joinB r = x ++ (w ++ y)
  | [x], w, h => by
    rw [List.mem_singleton.mp h]
    exact ⟨[], [], by show x = [] ++ (x ++ []); simp⟩
  | x :: y :: r, w, h => by
    rw [joinB_cons]
    rcases List.mem_cons.mp h with rfl | h
    · exact ⟨[], 32 :: joinB (y :: r), rfl⟩
    · obtain ⟨u, v, e⟩ := joinB_infix h
      exact ⟨x ++ 32 :: u, v, by rw [e]; simp⟩
theorem sum_split {f : List Nat → Nat} {ps : List (List Nat)} {k : Nat} {w : List Nat} (hk : ps[k]? = some w) : (ps.map f).sum = ((ps.take k).map f).sum + (f w + ((ps.drop (k + 1)).map f).sum) := by
  obtain ⟨h1, h2⟩ := List.getElem?_eq_some_iff.mp hk
  have e : ps = ps.take k ++ (w :: ps.drop (k + 1)) := by
    rw [← h2, ← List.drop_eq_getElem_cons h1, List.take_append_drop]
  conv => lhs; rw [e]
  rw [List.map_append, List.sum_append, List.map_cons, List.sum_cons]
theorem gd_words {i k : Nat} {T w : List Nat} {ps some_ : List (List Nat)} (h : Gd i T) (hj : joinB ps = T) (hk : ps[k]? = some w) (hs : some_ = [] ∨ some_ = [w, w] ∨ ∃ o, some_ = [o] ∧ (∀ c ∈ o, c < 128) ∧ o.length ≤ 8 ∧ o.count 40 ≤ 1) :
    Gd (i + 1) (joinB (ps.take k ++ (some_ ++ ps.drop (k + 1)))) := by
  have hp : 2 ^ (i + 1) = 2 * 2 ^ i := by rw [Nat.pow_succ, Nat.mul_comm]
  have p1 : 1 ≤ 2 ^ i := Nat.pow_pos (by decide)
  have h1 := h.len
  have h2 := h.opens
  have hw := List.mem_of_getElem? hk
  have inf : ∀ x ∈ ps, (∀ c ∈ x, c < 128) ∧ Runs (13 * 2 ^ i - 1) x := fun x hx => by
    obtain ⟨u, v, e⟩ := joinB_infix hx
    rw [hj] at e
    exact ⟨fun c hc => h.code c (by rw [e]; exact List.mem_append_right _ (List.mem_append_left _ hc)), runs_sub h.runs e⟩
  have parts : ∀ x ∈ ps.take k ++ (some_ ++ ps.drop (k + 1)), (∀ c ∈ x, c < 128) ∧ Runs (13 * 2 ^ (i + 1) - 1) x := fun x hx => by
    have up : (∀ c ∈ x, c < 128) ∧ Runs (13 * 2 ^ i - 1) x → (∀ c ∈ x, c < 128) ∧ Runs (13 * 2 ^ (i + 1) - 1) x := fun z => ⟨z.1, runs_mono z.2 (by omega)⟩
    rcases List.mem_append.mp hx with hx | hx
    · exact up (inf x (List.mem_of_mem_take hx))
    · rcases List.mem_append.mp hx with hx | hx
      · rcases hs with rfl | rfl | ⟨o, rfl, o1, o2, _⟩
        · cases hx
        · have : x = w := by simpa using hx
          rw [this]
          exact ⟨(inf w hw).1, runs_mono (inf w hw).2 (by omega)⟩
        · rw [List.mem_singleton.mp hx]
          exact ⟨o1, runs_len (by omega)⟩
      · exact up (inf x (List.mem_of_mem_drop hx))
  have sl := sum_split (f := fun w => w.length + 1) hk
  have sc := sum_split (f := fun w => w.count 40) hk
  rw [← joinB_count, hj] at sc
  have hne : ∃ x r, ps = x :: r := by
    cases ps with
    | nil => cases hw
    | cons x r => exact ⟨x, r, rfl⟩
  obtain ⟨x0, r0, e0⟩ := hne
  have l0 : T.length + 1 = (ps.map fun w => w.length + 1).sum := by rw [← hj, e0]; exact joinB_len x0 r0
  have l1 : (joinB (ps.take k ++ (some_ ++ ps.drop (k + 1)))).length ≤ ((ps.take k ++ (some_ ++ ps.drop (k + 1))).map fun w => w.length + 1).sum := by
    cases hq : ps.take k ++ (some_ ++ ps.drop (k + 1)) with
    | nil => exact Nat.zero_le _
    | cons x r =>
      have := joinB_len x r
      omega
  have l2 : 0 < ((ps.take k ++ (some_ ++ ps.drop (k + 1))).map fun w => w.length + 1).sum → (joinB (ps.take k ++ (some_ ++ ps.drop (k + 1)))).length + 1 ≤ ((ps.take k ++ (some_ ++ ps.drop (k + 1))).map fun w => w.length + 1).sum := by
    intro z
    cases hq : ps.take k ++ (some_ ++ ps.drop (k + 1)) with
    | nil => rw [hq] at z; exact absurd z (by decide)
    | cons x r =>
      have := joinB_len x r
      omega
  rw [List.map_append, List.map_append, List.sum_append, List.sum_append] at l1 l2
  refine ⟨joinB_code (by decide) fun x hx => (parts x hx).1, ?_, ?_, joinB_runs fun x hx => (parts x hx).2⟩
  · rcases hs with rfl | rfl | ⟨o, rfl, o1, o2, _⟩
    · simp only [List.map_nil, List.sum_nil] at l1 l2
      omega
    · simp only [List.map_cons, List.map_nil, List.sum_cons, List.sum_nil] at l1 l2
      omega
    · simp only [List.map_cons, List.map_nil, List.sum_cons, List.sum_nil] at l1 l2
      omega
  · rw [joinB_count, List.map_append, List.map_append, List.sum_append, List.sum_append]
    rcases hs with rfl | rfl | ⟨o, rfl, o1, o2, o3⟩
    · simp only [List.map_nil, List.sum_nil]
      omega
    · simp only [List.map_cons, List.map_nil, List.sum_cons, List.sum_nil]
      omega
    · simp only [List.map_cons, List.map_nil, List.sum_cons, List.sum_nil]
      omega
theorem cut_pre (z : Str) (p : Nat) : cutS z none (some (p : Int)) = strOfL ((TL.tl z).take p) := by
  unfold cutS strOfL
  rw [HT.sIx_nat, HT.sIx_none, TL.len_tl]
  show Str.mk (((TL.tl z).drop 0).take (min p (TL.tl z).length - 0)).toArray = _
  rw [List.drop_zero, Nat.sub_zero]
  rcases Nat.le_total p (TL.tl z).length with h | h
  · rw [Nat.min_eq_left h]
  · rw [Nat.min_eq_right h, List.take_of_length_le (Nat.le_refl _), List.take_of_length_le h]
theorem cut_suf (z : Str) (p : Nat) : cutS z (some (p : Int)) none = strOfL ((TL.tl z).drop p) := by
  unfold cutS strOfL
  rw [HT.sIx_nat, HT.sIx_none, TL.len_tl]
  show Str.mk (((TL.tl z).drop (min p (TL.tl z).length)).take ((TL.tl z).length - min p (TL.tl z).length)).toArray = _
  rcases Nat.le_total p (TL.tl z).length with h | h
  · rw [Nat.min_eq_left h, List.take_of_length_le (by rw [List.length_drop]; exact Nat.le_refl _)]
  · rw [Nat.min_eq_right h, Nat.sub_self, List.take_zero, List.drop_of_length_le h]
theorem sign_at {r : Int} (h0 : 0 ≤ r) (h1 : r < 32) : ∃ c, atI (Str.ofString "0123456789() ()  aelsourcvygt-+.").cps.toList r = some c ∧ c < 128 := by
  obtain ⟨n, rfl⟩ := nat_of h0
  have hl : (Str.ofString "0123456789() ()  aelsourcvygt-+.").cps.toList.length = 32 := by decide +kernel
  have ha : (Str.ofString "0123456789() ()  aelsourcvygt-+.").cps.toList.all (fun c => decide (c < 128)) = true := by decide +kernel
  generalize (Str.ofString "0123456789() ()  aelsourcvygt-+.").cps.toList = l at hl ha
  have hn : n < l.length := by omega
  exact ⟨l[n], atI_nat (List.getElem?_eq_getElem hn), of_decide_eq_true (List.all_eq_true.mp ha _ (List.getElem_mem hn))⟩
theorem spl_some (S : List Nat) : ∀ (l : List Nat) (k : Nat) (acc : List Nat), TL.spl S k acc l ≠ []
  | [], k, acc => by rw [TL.spl_nil]; exact List.cons_ne_nil _ _
  | c :: r, 0, acc => by
    rw [TL.spl]
    split
    · exact List.cons_ne_nil _ _
    · exact spl_some S r 0 _
  | c :: r, k + 1, acc => by
    rw [TL.spl]
    exact spl_some S r k acc
def oddL : List Str := ["", "00", "07", "13", "12", "100", "9999", "10000", "-1", "source", "(source)", "every", "(later", "s"]
theorem odd_at {r : Int} (h0 : 0 ≤ r) (h1 : r < 14) : ∃ o : Str, atI (oddL.map V.str) r = some (.str o) ∧ (∀ c ∈ TL.tl o, c < 128) ∧ (TL.tl o).length ≤ 8 ∧ (TL.tl o).count 40 ≤ 1 := by
  obtain ⟨n, rfl⟩ := nat_of h0
  have hl : oddL.length = 14 := rfl
  have ha : oddL.all (fun s => (TL.tl s).all (fun c => decide (c < 128)) && decide ((TL.tl s).length ≤ 8) && decide ((TL.tl s).count 40 ≤ 1)) = true := by decide +kernel
  have hn : n < oddL.length := by omega
  have h := List.all_eq_true.mp ha _ (List.getElem_mem hn)
  rw [Bool.and_eq_true, Bool.and_eq_true, decide_eq_true_eq, decide_eq_true_eq] at h
  exact ⟨oddL[n], atI_nat (by rw [List.getElem?_map, List.getElem?_eq_getElem hn]; rfl), fun c hc => of_decide_eq_true (List.all_eq_true.mp h.1.1 c hc), h.1.2, h.2⟩
theorem cutV_pre {xs : List V} {k : Nat} (h : k ≤ xs.length) : cutV xs none (some (k : Int)) = xs.take k := by
  unfold cutV
  rw [HT.sIx_nat, HT.sIx_none, List.drop_zero, Nat.sub_zero, Nat.min_eq_left h]
theorem cutV_suf {xs : List V} {k : Nat} (h : k ≤ xs.length) : cutV xs (some (k : Int)) none = xs.drop k := by
  unfold cutV
  rw [HT.sIx_nat, HT.sIx_none, Nat.min_eq_left h, List.take_of_length_le (by rw [List.length_drop]; exact Nat.le_refl _)]
theorem tl_app (a b : Str) : TL.tl (a ++ b) = TL.tl a ++ TL.tl b := TL.tl_append a b
theorem sc__law_changed : FnScope ["_law_h", "_law_text_here", "_law_way", "_law_at", "_law_sign", "_law_words", "_law_k", "_law_odd", "_law_some"] ["_law_h", "_law_text_here"] (defScope s__law_changed) := ⟨rfl, rfl, rfl, by decide +kernel, rfl, by decide +kernel, by decide +kernel⟩
def spChanged (K : PySem.W.Frag) : Sp := fun vs H Q _ => ∃ (h : Addr) (T : Str) (i : Nat), vs = [.ref h, .str T] ∧ Rng H h ∧ Gd i (TL.tl T) ∧ i ≤ 2 ∧ ∀ T' H', Ex H H' → Gd (i + 1) (TL.tl T') → Q (.str T') H'
theorem ok__law_changed {f : Addr} {fd : FuncData} (F : Fun K "_law_changed" "_law_changed" s__law_changed f fd) (B : Blt mg) (c__law_next : Dn P w K mg base 1 "_law_next" spNext) : FnOk P w K mg base CX0 2 f fd ["_law_h", "_law_text_here"] (spChanged K) := by
  have nd := sc__law_changed.nd
  refine F.ok sc__law_changed (fun vs H Q E h => ?_) (fun cdv A outer s H vs Q E hr h => ?_)
  · obtain ⟨h, T, i, rfl, _⟩ := h
    rfl
  · obtain ⟨h, T, i, rfl, hR, G, hi, q⟩ := h
    have hTl : T.length = (TL.tl T).length := TL.len_tl T
    have hTn := (gd_ok G (by omega)).1.len
    have hsz : T.length ≤ sizeLine := Nat.le_trans (show T.length ≤ 100000 by omega) (by decide)
    refine ⟨_, 
    (pss_cons (ps_set (i := 2) nd rfl (Or.inl rfl) (pe_d c__law_next hr (by decide) passL (by rfl) (pa_cons (pv 0) (pa_cons pe_int pa_nil))))
    (pss_cons (ps_set (i := 3) nd rfl (Or.inl rfl) (pe_d c__law_next hr (by decide) passL (by rfl) (pa_cons (pv 0) (pa_cons (pe_op op_add (pe_callB call_len_str (by rfl) B.len PySem.boot_len (pa_cons (pv 1) pa_nil)) pe_int) pa_nil))))
    (pss_cons (ps_set (i := 4) nd rfl (Or.inl rfl) (pe_ix ix_str pe_str (pe_d c__law_next hr (by decide) passL (by rfl) (pa_cons (pv 0) (pa_cons pe_int pa_nil))) (fun _ _ => rfl)))
    (pss_cons (ps_if (pt_cmpR op_lt (pv 2) pe_int (nomark _)) (pss_one (ps_ret (pe_op op_add_str (pe_op op_add_str (pe_slice sl_str (pv 1) po_none (po_some (pv 3))) (pe_ix (ixl (K := K) rfl) (pe_lstN (pa_cons (pv 4) (pa_cons pe_str (pa_cons (pv 4) pa_nil)))) (pv 2) (fun _ _ => rfl))) (pe_slice sl_str (pv 1) (po_some (pe_op op_add (pv 3) (pe_callTy call_int1 (by rfl) B.int bt_int (pa_cons (pe_cmpR op_gt (pv 2) pe_int (nomark _)) pa_nil)))) po_none)))) pss_nil)
    (pss_cons (ps_if (pt_cmpR op_eq (pv 2) pe_int (nomark _)) (pss_one (ps_ret (pe_op op_add_str (pe_slice sl_str (pv 1) po_none (po_some (pv 3))) (pe_slice sl_str (pv 1) (po_some (pe_d c__law_next hr (by decide) passL (by rfl) (pa_cons (pv 0) (pa_cons (pe_op op_add (pe_callB call_len_str (by rfl) B.len PySem.boot_len (pa_cons (pv 1) pa_nil)) pe_int) pa_nil)))) po_none)))) pss_nil)
    (pss_cons (ps_set (i := 5) nd rfl (Or.inl rfl) (pe_split (pv 1) pe_str))
    (pss_cons (ps_set (i := 6) nd rfl (Or.inl rfl) (pe_d c__law_next hr (by decide) passL (by rfl) (pa_cons (pv 0) (pa_cons (pe_callB (lenK (K := K) rfl) (by rfl) B.len PySem.boot_len (pa_cons (pv 5) pa_nil)) pa_nil))))
    (pss_cons (ps_set (i := 7) nd rfl (Or.inl rfl) (pe_lstN (pa_cons pe_str (pa_cons pe_str (pa_cons pe_str (pa_cons pe_str (pa_cons pe_str (pa_cons pe_str (pa_cons pe_str (pa_cons pe_str (pa_cons pe_str (pa_cons pe_str (pa_cons pe_str (pa_cons pe_str (pa_cons pe_str (pa_cons pe_str pa_nil))))))))))))))))
    (pss_cons (ps_set (i := 8) nd rfl (Or.inl rfl) (pe_ix (ixl (K := K) rfl) (pe_lstN (pa_cons (pe_lstN pa_nil) (pa_cons (pe_lstN (pa_cons (pe_ix (ixl (K := K) rfl) (pv 5) (pv 6) (fun _ _ => rfl)) (pa_cons (pe_ix (ixl (K := K) rfl) (pv 5) (pv 6) (fun _ _ => rfl)) pa_nil))) (pa_cons (pe_lstN (pa_cons (pe_ix (ixl (K := K) rfl) (pv 7) (pe_d c__law_next hr (by decide) passL (by rfl) (pa_cons (pv 0) (pa_cons pe_int pa_nil))) (fun _ _ => rfl)) pa_nil)) pa_nil)))) (pe_op op_sub (pv 2) pe_int) (fun _ _ => rfl)))
    (pss_one (ps_ret (pe_join pe_str (pe_op op_catN (pe_op op_catN (pe_slice (slK (K := K) rfl) (pv 5) po_none (po_some (pv 6))) (pv 8)) (pe_slice (slK (K := K) rfl) (pv 5) (po_some (pe_op op_add (pv 6) pe_int)) po_none)))))))))))))), ?_⟩
    try dsimp only [cxOf, Cx.nox, Cx.wish]
    walk_at "norm"
    refine ⟨_, rfl, h, 7, rfl, hR, by omega, by omega, ?_⟩
    intro r1 H1 a1 b1 e1
    have hR1 := hR.ext e1
    refine ⟨_, rfl, _, rfl, T, rfl, hsz, _, _, rfl, rfl, h, _, rfl, hR1, by omega, by omega, ?_⟩
    intro r2 H2 a2 b2 e2
    obtain ⟨at_, rfl⟩ := nat_of a2
    have hR2 := hR1.ext e2
    refine ⟨_, rfl, h, 32, rfl, hR2, by omega, by omega, ?_⟩
    intro r3 H3 a3 b3 e3
    have hR3 := hR2.ext e3
    have e03 : Ex H H3 := Ex.trans e1 (Ex.trans e2 e3)
    obtain ⟨c, hc, hc128⟩ := sign_at a3 b3
    refine ⟨_, _, c, rfl, rfl, by decide +kernel, hc, ?_⟩
    refine ⟨_, rfl, _, _, rfl, rfl, _, rfl, ?_⟩
    have t1 : ∀ n, n ≤ 100000 → n ≤ sizeLine := fun n h => Nat.le_trans h (by decide)
    have hs1 : (⟨#[c]⟩ : Str) = strOfL [c] := rfl
    rw [hs1]
    refine ite2 (fun c1 => ?_) (fun c1 => ?_)
    · have c1 : r1 < 3 := of_decide_eq_true c1
      refine ⟨_, rfl, _, rfl, _, rfl, T, rfl, hsz, ?_⟩
      refine ⟨_, rfl, _, rfl, t1 3 (by decide), nL_intro fun L4 H4 n4 e4 hL4 => ?_⟩
      have hit : ∃ s : List Nat, atI [V.str (strOfL [c]), V.str (Str.ofString ""), V.str (strOfL [c])] r1 = some (.str (strOfL s)) ∧ (s = [] ∨ s = [c]) := by
        have : r1 = 0 ∨ r1 = 1 ∨ r1 = 2 := by omega
        rcases this with rfl | rfl | rfl
        · exact ⟨[c], atI_nat (j := 0) rfl, .inr rfl⟩
        · exact ⟨[], atI_nat (j := 1) (congrArg (fun x => some (V.str x)) (str_ext (by decide +kernel))), .inl rfl⟩
        · exact ⟨[c], atI_nat (j := 2) rfl, .inr rfl⟩
      obtain ⟨sg, hsg, hsc⟩ := hit
      have hsl : sg.length ≤ 1 := by rcases hsc with rfl | rfl <;> simp
      have hs128 : ∀ x ∈ sg, x < 128 := by
        rcases hsc with rfl | rfl
        · intro x hx; cases hx
        · intro x hx
          rw [List.mem_singleton.mp hx]
          exact hc128
      refine ⟨_, rfl, L4, _, _, _, rfl, rfl, .of hL4, hsg, ?_⟩
      rw [cut_pre]
      have hln : (strOfL ((TL.tl T).take at_)).length ≤ 4300 := by rw [strOf_len, List.length_take]; omega
      refine ⟨_, _, rfl, rfl, t1 _ (by rw [strOf_len (l := sg)]; omega), ?_⟩
      refine ⟨_, rfl, _, rfl, _, rfl, _, _, rfl, rfl, .inr ⟨_, rfl, _, _, rfl, rfl, _, rfl, T, rfl, hsz, ?_⟩⟩
      obtain ⟨b, hb, hab⟩ : ∃ b : Nat, (at_ : Int) + (if decide (0 < r1) = true then 1 else 0) = (b : Int) ∧ at_ ≤ b := by
        by_cases z : 0 < r1
        · exact ⟨at_ + 1, by rw [if_pos (decide_eq_true z)]; omega, by omega⟩
        · exact ⟨at_, by rw [if_neg (fun y => z (of_decide_eq_true y))]; omega, by omega⟩
      rw [hb, cut_suf]
      have hl2 : (strOfL ((TL.tl T).drop b)).length ≤ 4300 := by rw [strOf_len, List.length_drop]; omega
      refine ⟨_, _, rfl, rfl, t1 _ (by rw [fold_str, strOf_len (l := sg)]; omega), ?_⟩
      refine q _ _ (e03.trans e4) ?_
      rw [tl_app, tl_app, tl_strOfL, tl_strOfL, tl_strOfL, List.append_assoc]
      exact gd_mid G hs128 hsl (.inr hab)
    · have c1 : ¬ r1 < 3 := fun z => c1 (decide_eq_true z)
      refine ⟨_, rfl, rfl, _, rfl, ?_⟩
      refine ite2 (fun c2 => ?_) (fun c2 => ?_)
      · refine ⟨_, rfl, _, rfl, _, rfl, T, rfl, hsz, ?_⟩
        refine ⟨_, rfl, _, rfl, _, rfl, T, rfl, hsz, _, _, rfl, rfl, h, _, rfl, hR3, by omega, by omega, ?_⟩
        intro r4 H4 a4 b4 e4
        obtain ⟨b, rfl⟩ := nat_of a4
        refine ⟨_, rfl, T, rfl, hsz, ?_⟩
        rw [cut_pre, cut_suf]
        have hln : (strOfL ((TL.tl T).take at_)).length ≤ 4300 := by rw [strOf_len, List.length_take]; omega
        have hl2 : (strOfL ((TL.tl T).drop b)).length ≤ 4300 := by rw [strOf_len, List.length_drop]; omega
        refine ⟨_, _, rfl, rfl, t1 _ (by omega), ?_⟩
        refine q _ _ (Ex.trans e03 e4) ?_
        rw [tl_app, tl_strOfL, tl_strOfL]
        exact gd_mid (s := []) G (fun x hx => by cases hx) (Nat.zero_le _) (.inl rfl)
      · have c2 : ¬ r1 = 3 := fun z => c2 (decide_eq_true (congrArg V.int z))
        have hblank : TL.tl (Str.ofString " ") = [32] := by decide +kernel
        refine ⟨_, rfl, ⟨_, rfl⟩, _, _, rfl, rfl, by decide +kernel, t1 _ (by omega), ?_⟩
        intro p5 n5
        have e5 : Ex H3 (upd H3 p5 (.lst ((Txt.split T (Str.ofString " ")).map V.str))) := Ex.new n5
        have h5 : (upd H3 p5 (.lst ((Txt.split T (Str.ofString " ")).map V.str))) p5 = some (.lst ((Txt.split T (Str.ofString " ")).map V.str)) := upd_same
        generalize upd H3 p5 (.lst ((Txt.split T (Str.ofString " ")).map V.str)) = H5 at e5 h5 ⊢
        have hjoin : joinB ((Txt.split T (Str.ofString " ")).map TL.tl) = TL.tl T := by
          have := TL.tl_join (Str.ofString " ") (Txt.split T (Str.ofString " "))
          rw [PySem.StrLaws.join_split, hblank] at this
          exact this.symm
        have hWne : Txt.split T (Str.ofString " ") ≠ [] := fun z => by
          have := TL.split_spl T (Str.ofString " ") (by rw [hblank]; exact List.cons_ne_nil _ _) (TL.kind_ok (by decide +kernel))
          rw [z] at this
          exact spl_some _ _ _ _ this.symm
        generalize hWs : Txt.split T (Str.ofString " ") = Ws at h5 hjoin hWne ⊢
        have hR5 := hR3.ext e5
        have hWl : 0 < Ws.length := List.length_pos_iff.mpr hWne
        have hWle : Ws.length ≤ 4301 := by
          have h0 : ((Ws.map TL.tl).map fun w => w.length + 1).sum = (TL.tl T).length + 1 := by
            cases hq : Ws with
            | nil => exact absurd hq hWne
            | cons x r =>
              rw [← hjoin, hq]
              exact (joinB_len (TL.tl x) (r.map TL.tl)).symm
          have h1 : ∀ l : List (List Nat), l.length ≤ (l.map fun w => w.length + 1).sum := by
            intro l
            induction l with
            | nil => exact Nat.zero_le _
            | cons x t ih => rw [List.map_cons, List.sum_cons, List.length_cons]; omega
          have := h1 (Ws.map TL.tl)
          rw [h0, List.length_map] at this
          omega
        refine ⟨_, rfl, _, rfl, p5, _, rfl, .inl (.of h5), h, _, rfl, hR5, by rw [List.length_map]; omega, by rw [List.length_map]; omega, ?_⟩
        intro r6 H6 a6 b6 e6
        obtain ⟨k, rfl⟩ := nat_of a6
        rw [List.length_map] at b6
        have hk : k < Ws.length := by omega
        have hg : Ws[k]? = some Ws[k] := List.getElem?_eq_getElem hk
        generalize Ws[k] = wk at hg
        have hR6 := hR5.ext e6
        have h56 := e6 _ _ h5
        refine ⟨t1 14 (by decide), nL_intro fun L7 H7 n7 e7 hL7 => ?_⟩
        have hR7 := hR6.ext e7
        have h57 := e7 _ _ h56
        refine ⟨t1 0 (by decide), nL_intro fun L8 H8 n8 e8 hL8 => ?_⟩
        have h58 := e8 _ _ h57
        have hgv : (Ws.map V.str)[k]? = some (V.str wk) := by rw [List.getElem?_map, hg]; rfl
        refine ⟨_, rfl, _, rfl, p5, _, _, _, rfl, rfl, .of h58, atI_nat hgv, ?_⟩
        refine ⟨_, rfl, _, rfl, p5, _, _, _, rfl, rfl, .of h58, atI_nat hgv, ?_⟩
        refine ⟨t1 2 (by decide), nL_intro fun L9 H9 n9 e9 hL9 => ?_⟩
        have hR9 := (hR7.ext e8).ext e9
        refine ⟨_, rfl, _, rfl, h, 14, rfl, hR9, by omega, by omega, ?_⟩
        intro r7 HA aA bA eA
        obtain ⟨o, ho, o1, o2, o3⟩ := odd_at aA bA
        have hL7A := eA _ _ (e9 _ _ (e8 _ _ hL7))
        refine ⟨L7, _, _, _, rfl, rfl, .of hL7A, ho, ?_⟩
        refine ⟨t1 1 (by decide), nL_intro fun LB HB nB eB hLB => ?_⟩
        refine ⟨t1 3 (by decide), nL_intro fun LC HC nC eC hLC => ?_⟩
        have e8C : Ex H8 HC := Ex.trans e9 (Ex.trans eA (Ex.trans eB eC))
        have hL8C := e8C _ _ hL8
        have hL9C := eC _ _ (eB _ _ (eA _ _ hL9))
        have hLBC := eC _ _ hLB
        have h5C := e8C _ _ h58
        have hsome : ∃ (Lx : Addr) (sm : List Str), atI [V.ref L8, V.ref L9, V.ref LB] (r1 - 4) = some (.ref Lx) ∧ HC Lx = some (.lst (sm.map V.str)) ∧ (sm = [] ∨ sm = [wk, wk] ∨ sm = [o]) := by
          have : r1 = 4 ∨ r1 = 5 ∨ r1 = 6 := by omega
          rcases this with rfl | rfl | rfl
          · exact ⟨L8, [], atI_nat (j := 0) rfl, hL8C, .inl rfl⟩
          · exact ⟨L9, [wk, wk], atI_nat (j := 1) rfl, hL9C, .inr (.inl rfl)⟩
          · exact ⟨LB, [o], atI_nat (j := 2) rfl, hLBC, .inr (.inr rfl)⟩
        obtain ⟨Lx, sm, hLx, hsm, hsms⟩ := hsome
        refine ⟨_, rfl, _, _, rfl, rfl, LC, _, _, _, rfl, rfl, .of hLC, hLx, ?_⟩
        refine ⟨⟨_, rfl⟩, ?_⟩
        refine ⟨_, rfl, _, rfl, _, rfl, p5, _, rfl, .of h5C, nL_intro fun LD HD nD eD hLD => ?_⟩
        rw [cutV_pre (by rw [List.length_map]; omega)] at hLD
        have hsml : sm.length ≤ 2 := by rcases hsms with rfl | rfl | rfl <;> simp
        refine ⟨_, rfl, LD, Lx, _, _, rfl, rfl, hLD, eD _ _ hsm, t1 _ (by rw [List.length_take, List.length_map, List.length_map]; omega), nL_intro fun LE HE nE' eE hLE => ?_⟩
        refine ⟨_, rfl, _, rfl, _, _, rfl, rfl, _, rfl, p5, _, rfl, .of (eE _ _ (eD _ _ h5C)), nL_intro fun LF HF nF eF hLF => ?_⟩
        rw [show ((k : Int) + 1) = ((k + 1 : Nat) : Int) by omega, cutV_suf (by rw [List.length_map]; omega)] at hLF
        refine ⟨LE, LF, _, _, rfl, rfl, eF _ _ hLE, hLF, t1 _ (by rw [List.length_append, List.length_take, List.length_drop, List.length_map, List.length_map]; omega), nL_intro fun LG HG nG eG hLG => ?_⟩
        have hlist : (List.take k (Ws.map V.str) ++ sm.map V.str) ++ List.drop (k + 1) (Ws.map V.str) = (Ws.take k ++ (sm ++ Ws.drop (k + 1))).map V.str := by
          rw [List.map_append, List.map_append, List.map_take, List.map_drop, List.append_assoc]
        rw [hlist] at hLG
        have hG := gd_words (k := k) (w := TL.tl wk) (some_ := sm.map TL.tl) G hjoin (by rw [List.getElem?_map, hg]; rfl) (by
          rcases hsms with rfl | rfl | rfl
          · exact .inl rfl
          · exact .inr (.inl rfl)
          · exact .inr (.inr ⟨_, rfl, o1, o2, o3⟩))
        have hmap : (Ws.map TL.tl).take k ++ (sm.map TL.tl ++ (Ws.map TL.tl).drop (k + 1)) = (Ws.take k ++ (sm ++ Ws.drop (k + 1))).map TL.tl := by
          rw [List.map_append, List.map_append, List.map_take, List.map_drop]
        rw [hmap] at hG
        generalize Ws.take k ++ (sm ++ Ws.drop (k + 1)) = ys at hLG hG
        have hGl := (gd_ok hG (by omega)).1.len
        have hsum : (ys.map (·.length)).sum + ys.length * (Str.ofString " ").length ≤ 16777216 := by
          have h1 : (Str.ofString " ").length = 1 := by decide +kernel
          have h2 : ∀ l : List Str, (l.map (·.length)).sum + l.length = ((l.map TL.tl).map fun w => w.length + 1).sum := by
            intro l
            induction l with
            | nil => rfl
            | cons x t ih =>
              have hx : x.length = (TL.tl x).length := TL.len_tl x
              simp only [List.map_cons, List.sum_cons, List.length_cons]
              rw [← ih, hx]
              omega
          rw [h1, Nat.mul_one, h2]
          cases hq : ys with
          | nil => decide
          | cons x t =>
            have := joinB_len (TL.tl x) (t.map TL.tl)
            rw [hq] at hGl
            rw [List.map_cons, ← this]
            have : (joinB (TL.tl x :: t.map TL.tl)).length ≤ 4300 := hGl
            omega
        refine ⟨_, LG, ys, rfl, rfl, .inl (.of hLG), hsum, ?_⟩
        refine q _ _ (Ex.trans e03 (Ex.trans e5 (Ex.trans e6 (Ex.trans e7 (Ex.trans e8 (Ex.trans e8C (Ex.trans eD (Ex.trans eE (Ex.trans eF eG))))))))) ?_
        rw [TL.join_eq, TL.tl_join, hblank]
        exact hG


/-! ### the law -/
theorem runs_note : ∀ b : Beat, b.ok → Runs 12 (noteL b) := by
  have sm : ∀ {x : List Nat}, x.length ≤ 12 → Runs 12 x := fun h => runs_len h
  have wd : (chs "every").length ≤ 12 ∧ (chs "gate").length ≤ 12 ∧ (chs "later").length ≤ 12 ∧ (chs "led").length ≤ 12 ∧ (chs "source").length ≤ 12 ∧ ∀ v : Two, v.chs.length ≤ 12 := by
    refine ⟨by decide +kernel, by decide +kernel, by decide +kernel, by decide +kernel, by decide +kernel, fun v => by cases v <;> decide +kernel⟩
  obtain ⟨w1, w2, w3, w4, w5, w6⟩ := wd
  have br : ∀ {x : List Nat}, Runs 12 x → Runs 12 (40 :: x) := fun {x} h => by
    have := runs_sep (R := 12) (c := 40) (A := []) (sm (Nat.zero_le _)) h (by decide)
    simpa using this
  have cl : ∀ {x : List Nat}, Runs 12 x → Runs 12 (x ++ [41]) := fun {x} h => runs_sep h (sm (x := []) (Nat.zero_le _)) (by decide)
  have bl : ∀ {x y : List Nat}, Runs 12 x → Runs 12 y → Runs 12 (x ++ 32 :: y) := fun {x y} h g => runs_sep h g (by decide)
  have fg : ∀ {n : Nat}, n ≤ 9999 → Runs 12 (figs n) := fun h => sm (by have := figs_len h; omega)
  intro b
  induction b with
  | source => intro _; exact sm w5
  | every n k b ih => intro h; exact br (bl (sm w1) (bl (fg (by have := h.2.1; omega)) (bl (fg (by have := h.2.1; have := h.2.2.1; omega)) (cl (ih h.2.2.2)))))
  | gate bits b ih => intro h; exact br (bl (sm w2) (bl (sm (by rw [List.length_map]; exact h.2.1)) (cl (ih h.2.2))))
  | later m b ih => intro h; exact br (bl (sm w3) (bl (fg (by have := h.1; omega)) (cl (ih h.2))))
  | two v a b iha ihb => intro h; exact br (bl (sm (w6 v)) (bl (iha h.1) (cl (ihb h.2))))
  | led a many b first iha ihb => intro h; exact br (bl (sm w4) (bl (iha h.2.2.1) (bl (fg h.1) (bl (ihb h.2.2.2) (cl (fg h.2.1))))))
theorem count_note : ∀ b : Beat, (noteL b).count 40 = opensN b := by
  have fg : ∀ n, (figs n).count 40 = 0 := fun n => List.count_eq_zero.mpr fun h => by
    have := (figs_all n).1 40 h
    revert this
    decide
  have bt : ∀ bits : List Bool, (bits.map bitC).count 40 = 0 := fun bits => List.count_eq_zero.mpr fun h => by
    have := bits_fig bits 40 h
    revert this
    decide
  have wd : (chs "every").count 40 = 0 ∧ (chs "gate").count 40 = 0 ∧ (chs "later").count 40 = 0 ∧ (chs "led").count 40 = 0 ∧ (chs "source").count 40 = 0 ∧ ∀ v : Two, v.chs.count 40 = 0 := by
    refine ⟨by decide +kernel, by decide +kernel, by decide +kernel, by decide +kernel, by decide +kernel, fun v => by cases v <;> decide +kernel⟩
  obtain ⟨w1, w2, w3, w4, w5, w6⟩ := wd
  intro b
  induction b with
  | source => exact w5
  | every n k b ih => simp [noteL, List.count_append, List.count_cons, fg, w1, ih, opensN]
  | gate bits b ih => simp [noteL, List.count_append, List.count_cons, bt, w2, ih, opensN]
  | later m b ih => simp [noteL, List.count_append, List.count_cons, fg, w3, ih, opensN]
  | two v a b iha ihb =>
    simp [noteL, List.count_append, List.count_cons, w6, iha, ihb, opensN]
    try omega
  | led a many b first iha ihb =>
    simp [noteL, List.count_append, List.count_cons, fg, w4, iha, ihb, opensN]
    try omega
theorem gd_note {b : Beat} (h : b.ok) (hs : b.size ≤ 15) (ho : opensN b ≤ 7) : Gd 0 (noteL b) := by
  have := note_short b h
  exact ⟨note_codes b, by omega, by rw [count_note]; omega, runs_note b h⟩
def odd16 : List Str := ["", " ", "source ", " source", "(source)", "()", "(every 1 0 source", "(every 01 0 source)", "sources", "(gate  source)", "(led source 0 source 00)", "(either source  source)", "(Both source source)"]
theorem odd16_at {r : Int} (h0 : 0 ≤ r) (h1 : r < 13) : ∃ o : Str, atI (odd16.map V.str) r = some (.str o) ∧ Gd 3 (TL.tl o) := by
  obtain ⟨n, rfl⟩ := nat_of h0
  have hl : odd16.length = 13 := rfl
  have ha : odd16.all (fun s => (TL.tl s).all (fun c => decide (c < 128)) && decide ((TL.tl s).length ≤ 30) && decide ((TL.tl s).count 40 ≤ 7)) = true := by decide +kernel
  have hn : n < odd16.length := by omega
  have h := List.all_eq_true.mp ha _ (List.getElem_mem hn)
  rw [Bool.and_eq_true, Bool.and_eq_true, decide_eq_true_eq, decide_eq_true_eq] at h
  refine ⟨odd16[n], atI_nat (by rw [List.getElem?_map, List.getElem?_eq_getElem hn]; rfl), fun c hc => of_decide_eq_true (List.all_eq_true.mp h.1.1 c hc), by have := h.1.2; omega, by have := h.2; omega, runs_len (by have := h.1.2; omega)⟩
theorem gd_three {i : Nat} {T : List Nat} (h : Gd i T) (hi : i ≤ 3) : Gd 3 T := by
  have : i = 0 ∨ i = 1 ∨ i = 2 ∨ i = 3 := by omega
  rcases this with rfl | rfl | rfl | rfl
  · exact gd_up (gd_up (gd_up h))
  · exact gd_up (gd_up h)
  · exact gd_up h
  · exact h
theorem sc_law : FnScope ["_law_script", "_law_h", "_law_odd", "_law_turn", "_law_text_here", "_law_k", "_law_some", "_law_again"] ["_law_script"] (defScope s_law) := ⟨rfl, rfl, rfl, by decide +kernel, rfl, by decide +kernel, by decide +kernel⟩
def spLaw (K : PySem.W.Frag) : Sp := fun vs H Q _ => ∃ (a : Addr) (ns : List Int), vs = [.ref a] ∧ SqL K H a (ns.map V.int) ∧ ns.length ≤ 63 ∧ ∀ H', Q (.bl true) H'
theorem ok_law {f : Addr} {fd : FuncData} (F : Fun K "law" "law" s_law f fd) (B : Blt mg) (c__law_mix : Dn P w K mg base 1 "_law_mix" (spMix K)) (c__law_next : Dn P w K mg base 1 "_law_next" spNext) (c__law_beat : Dn P w K mg base 5 "_law_beat" (spBeatL K 4)) (c__law_text : Dn P w K mg base 62 "_law_text" (spText K 61))
    (c__law_changed : Dn P w K mg base 2 "_law_changed" (spChanged K)) (c__law_told : Dn P w K mg base 99 "_law_told" (spTold16 K)) (c__law_due : Dn P w K mg base 64 "_law_due" (spDue16 K)) (c__law_alike : Dn P w K mg base 41 "_law_alike" (spAlike K 40)) : FnOk P w K mg base CX0 105 f fd ["_law_script"] (spLaw K) := by
  have nd := sc_law.nd
  refine F.ok sc_law (fun vs H Q E h => ?_) (fun cdv A outer s H vs Q E hr h => ?_)
  · obtain ⟨a, ns, rfl, _⟩ := h
    rfl
  · obtain ⟨a, ns, rfl, hS, hl, q⟩ := h
    have t1 : ∀ n, n ≤ 100000 → n ≤ sizeLine := fun n h => Nat.le_trans h (by decide)
    refine ⟨_, 
    (pss_cons (ps_set (i := 1) nd rfl (Or.inl rfl) (pe_d c__law_mix hr (by decide) passL (by rfl) (pa_cons (pv 0) (pa_cons pe_int pa_nil))))
    (pss_cons (ps_set (i := 2) nd rfl (Or.inl rfl) (pe_lstN (pa_cons pe_str (pa_cons pe_str (pa_cons pe_str (pa_cons pe_str (pa_cons pe_str (pa_cons pe_str (pa_cons pe_str (pa_cons pe_str (pa_cons pe_str pa_nil)))))))))))
    (pss_cons (ps_set (i := 2) nd rfl (Or.inl rfl) (pe_op op_catN (pv 2) (pe_lstN (pa_cons pe_str (pa_cons pe_str (pa_cons pe_str (pa_cons pe_str pa_nil)))))))
    (pss_cons (ps_for PassesOwn.never rfl (pi_range1 (by rfl) B.range (pa_cons pe_int pa_nil)) (pg_name (i := 3) nd rfl (Or.inl rfl)) (pss_cons (ps_set (i := 4) nd rfl (Or.inl rfl) (pe_d c__law_text hr (by decide) passL (by rfl) (pa_cons (pe_d c__law_beat hr (by decide) passL (by rfl) (pa_cons (pv 1) (pa_cons (pe_op op_add pe_int (pe_d c__law_next hr (by decide) passL (by rfl) (pa_cons (pv 1) (pa_cons pe_int pa_nil)))) pa_nil))) pa_nil)))
    (pss_cons (ps_for PassesOwn.never rfl (pi_range1 (by rfl) B.range (pa_cons (pe_d c__law_next hr (by decide) passL (by rfl) (pa_cons (pv 1) (pa_cons pe_int pa_nil))) pa_nil)) (pg_name (i := 5) nd rfl (Or.inl rfl)) (pss_one (ps_set (i := 4) nd rfl (Or.inl rfl) (pe_d c__law_changed hr (by decide) passL (by rfl) (pa_cons (pv 1) (pa_cons (pv 4) pa_nil))))))
    (pss_one (ps_for PassesOwn.never rfl (pi_list (pe_lstN (pa_cons (pv 4) (pa_cons (pe_ix (ixl (K := K) rfl) (pv 2) (pe_d c__law_next hr (by decide) passL (by rfl) (pa_cons (pv 1) (pa_cons pe_int pa_nil))) (fun _ _ => rfl)) pa_nil)))) (pg_name (i := 6) nd rfl (Or.inl rfl)) (pss_one (ps_for PassesOwn.never rfl (pi_range1 (by rfl) B.range (pa_cons pe_int pa_nil)) (pg_name (i := 7) nd rfl (Or.inl rfl)) (pss_one (ps_if (pt_not (pt_val (pe_d c__law_alike hr (by decide) passL (by rfl) (pa_cons (pe_d c__law_told hr (by decide) passL (by rfl) (pa_cons (pv 6) pa_nil)) (pa_cons (pe_d c__law_due hr (by decide) passL (by rfl) (pa_cons (pv 6) pa_nil)) pa_nil))))) (pss_one (ps_ret pe_bl)) pss_nil)))))))))
    (pss_one (ps_ret pe_bl)))))), ?_⟩
    try dsimp only [cxOf, Cx.nox, Cx.wish]
    walk_at "norm"
    refine ⟨_, rfl, a, ns, 61, rfl, hS, hl, fun h H1 e1 hR1 => ?_⟩
    refine ⟨t1 9 (by decide), nL_intro fun L2 H2 n2 e2 hL2 => ?_⟩
    refine ⟨_, rfl, t1 4 (by decide), nL_intro fun L3 H3 n3 e3 hL3 => ?_⟩
    refine ⟨L2, L3, _, _, rfl, rfl, e3 _ _ hL2, hL3, t1 13 (by decide), nL_intro fun L4 H4 n4 e4 hL4 => ?_⟩
    have hR4 := ((hR1.ext e2).ext e3).ext e4
    refine ⟨5, rfl, by decide, by decide, ?_⟩
    refine for_range (n := 5) (fun i σ H' => ∃ y3 y4 y5 y6 y7 : Option V, σ = [some (.ref a), some (.ref h), some (.ref L4), y3, y4, y5, y6, y7] ∧ Ex H4 H') ⟨_, _, _, _, _, rfl, Ex.refl _⟩ ?_ ?_
    · rintro i σ H5 hi ⟨y3, y4, y5, y6, y7, rfl, e5⟩
      have hR5 := hR4.ext e5
      refine ⟨_, rfl, _, rfl, h, 3, rfl, hR5, by omega, by omega, ?_⟩
      intro r1 H6 a1 b1 e6
      have hR6 := hR5.ext e6
      refine ⟨_, _, rfl, rfl, h, 1 + r1, rfl, hR6, by omega, by omega, fun v H7 b e7 hd dr => ?_⟩
      have hsz := dr.size
      have hop := dr.opens
      have hok := dr.ok
      have hp4 : (2 : Nat) ^ ((1 + r1).toNat + 1) ≤ 2 ^ 4 := Nat.pow_le_pow_right (by decide) (by omega)
      have hp3 : (2 : Nat) ^ ((1 + r1).toNat) ≤ 2 ^ 3 := Nat.pow_le_pow_right (by decide) (by omega)
      have hp4 : (2 : Nat) ^ ((1 + r1).toNat + 1) ≤ 16 := hp4
      have hp3 : (2 : Nat) ^ ((1 + r1).toNat) ≤ 8 := hp3
      have hhi := high_size b
      refine ⟨v, b, rfl, hd, hok, by omega, by omega, by omega, fun H8 e8 => ?_⟩
      have hG0 : Gd 0 (TL.tl (noteS b)) := by rw [tl_note]; exact gd_note hok (by omega) (by omega)
      have e58 : Ex H5 H8 := Ex.trans e6 (Ex.trans e7 e8)
      have hR8 := hR5.ext e58
      refine ⟨_, rfl, h, 4, rfl, hR8, by omega, by omega, ?_⟩
      intro r2 H9 a2 b2 e9
      have hR9 := hR8.ext e9
      refine ⟨r2, rfl, by omega, by omega, ?_⟩
      refine for_range (n := r2.toNat) (fun j σ H' => ∃ (T : Str) (y5 : Option V), σ = [some (.ref a), some (.ref h), some (.ref L4), some (.int (0 + (i : Int))), some (.str T), y5, y6, y7] ∧ Ex H9 H' ∧ Gd j (TL.tl T)) ⟨noteS b, _, rfl, Ex.refl _, hG0⟩ ?_ ?_
      · rintro j σ HA hj ⟨T, y5, rfl, eA, hG⟩
        refine ⟨_, rfl, _, rfl, h, T, j, rfl, hR9.ext eA, hG, by omega, fun T' HB eB hG' => ?_⟩
        exact ⟨T', _, rfl, Ex.trans eA eB, hG'⟩
      · rintro σ HA ⟨T, y5, rfl, eA, hG⟩
        have hG3 := gd_three hG (by omega)
        have hRA := hR9.ext eA
        refine ⟨_, rfl, _, rfl, _, rfl, h, 13, rfl, hRA, by omega, by omega, ?_⟩
        intro r3 HB a3 b3 eB
        obtain ⟨o, ho, hGo⟩ := odd16_at a3 b3
        have e4B : Ex H4 HB := Ex.trans e5 (Ex.trans e58 (Ex.trans e9 (Ex.trans eA eB)))
        refine ⟨L4, _, _, _, rfl, rfl, .of (e4B _ _ hL4), ho, ?_⟩
        refine ⟨t1 2 (by decide), nL_intro fun L5 HC nC eC hLC => ?_⟩
        refine ⟨L5, rfl, ⟨_, .of hLC⟩, ?_⟩
        have e4C : Ex H4 HC := Ex.trans e4B eC
        refine for_list (K := K) (a := L5) (xs := [.str T, .str o]) (fun j σ H' => ∃ y6 y7 : Option V, σ = [some (.ref a), some (.ref h), some (.ref L4), some (.int (0 + (i : Int))), some (.str T), y5, y6, y7] ∧ Ex HC H') ⟨_, _, rfl, Ex.refl _⟩ ?_ ?_ ?_
        · rintro j σ H' hj ⟨y6, y7, rfl, e'⟩
          exact .of (e' _ _ hLC)
        · rintro j x σ HD hx ⟨y6, y7, rfl, eD⟩
          obtain ⟨U, rfl, hGU⟩ : ∃ U : Str, x = .str U ∧ Gd 3 (TL.tl U) := by
            have := List.mem_of_getElem? hx
            simp only [List.mem_cons, List.not_mem_nil, or_false] at this
            rcases this with rfl | rfl
            · exact ⟨T, rfl, hG3⟩
            · exact ⟨o, rfl, hGo⟩
          obtain ⟨tok, top⟩ := gd_ok hGU (Nat.le_refl 3)
          refine ⟨2, rfl, by decide, by decide, ?_⟩
          refine for_range (n := 2) (fun l σ H' => ∃ y7 : Option V, σ = [some (.ref a), some (.ref h), some (.ref L4), some (.int (0 + (i : Int))), some (.str T), y5, some (.str U), y7] ∧ Ex HC H') ⟨_, rfl, eD⟩ ?_ ?_
          · rintro l σ HE hl2 ⟨y7, rfl, eE⟩
            refine ⟨_, rfl, U, rfl, tok, fun v1 HF eF hv1 => ?_⟩
            refine ⟨_, rfl, U, rfl, tok, top, fun v2 HG eG hv2 => ?_⟩
            rw [due_read] at hv2
            have key : ∃ d, Dp K HG v1 d ∧ Dp K HG v2 d ∧ SeqAt.shaped d = true ∧ narrow d = true ∧ PyData.depth d < 40 := by
              cases hr : readD (TL.tl U) with
              | none =>
                rw [hr] at hv1 hv2
                have hv1 : v1 = .non := hv1
                have hv2 : v2 = .non := hv2
                rw [hv1, hv2]
                exact ⟨.none, .non, .non, by decide +kernel, by simp [narrow], by simp [PyData.depth]⟩
              | some d =>
                rw [hr] at hv1 hv2
                have hb : isBeatD d = true := by
                  unfold readD at hr
                  obtain ⟨x, _, h2⟩ := Option.bind_eq_some_iff.mp hr
                  split at h2
                  · rename_i hc
                    cases h2
                    exact hc.2
                  · cases h2
                obtain ⟨b2, hb2, rfl, hs2⟩ := beat_from hb
                have hh2 := high_size b2
                have hd2 := data_high b2
                exact ⟨_, eG.dp hv1, hv2, shaped_high (by omega), data_narrow b2, by omega⟩
            obtain ⟨d, d1, d2, d3, d4, d5⟩ := key
            refine ⟨v1, v2, d, rfl, d1, d2, d3, d4, d5, fun HH eH => ?_⟩
            refine ⟨true, rfl, ?_⟩
            refine iteF ?_
            exact ⟨_, rfl, Ex.trans eE (Ex.trans eF (Ex.trans eG eH))⟩
          · rintro σ HE ⟨y7, rfl, eE⟩
            exact ⟨_, _, rfl, eE⟩
        · rintro σ HD ⟨y6, y7, rfl, eD⟩
          exact ⟨_, _, _, _, _, rfl, Ex.trans e4C eD⟩
    · rintro σ H5 ⟨y3, y4, y5, y6, y7, rfl, e5⟩
      exact q _

end
end TD
namespace TD
open PySem PySem.Spec PyProof.Rows L2
theorem all_mk {l : PySem.W.OpenLaw} {w : World} {K : PySem.W.Frag} {h : Heap} {mg : Str → Option Value} {fa f__law_text f__law_beat f__law_counted f__law_parsed f__law_numbered f__law_due f__law_told f__law_changed f_is_whole f_are_signs f_is_every f_inner_of f_is_beat f__law_mix f__law_next f__law_whole f__law_right f__law_alike f_read f_law : Addr} (X : K.In h) (G : h.Ns mainGlobals mg) (hfa : mg "law" = some (.ref fa))
    {od__law_text an__law_text : Option Addr} {sl__law_text : Array (Option Value)} {oc__law_text kV__law_text dc__law_text pm__law_text cd__law_text ct__law_text : Value}
    {od__law_beat an__law_beat : Option Addr} {sl__law_beat : Array (Option Value)} {oc__law_beat kV__law_beat dc__law_beat pm__law_beat cd__law_beat ct__law_beat : Value}
    {od__law_counted an__law_counted : Option Addr} {sl__law_counted : Array (Option Value)} {oc__law_counted kV__law_counted dc__law_counted pm__law_counted cd__law_counted ct__law_counted : Value}
    {od__law_parsed an__law_parsed : Option Addr} {sl__law_parsed : Array (Option Value)} {oc__law_parsed kV__law_parsed dc__law_parsed pm__law_parsed cd__law_parsed ct__law_parsed : Value}
    {od__law_numbered an__law_numbered : Option Addr} {sl__law_numbered : Array (Option Value)} {oc__law_numbered kV__law_numbered dc__law_numbered pm__law_numbered cd__law_numbered ct__law_numbered : Value}
    {od__law_due an__law_due : Option Addr} {sl__law_due : Array (Option Value)} {oc__law_due kV__law_due dc__law_due pm__law_due cd__law_due ct__law_due : Value}
    {od__law_told an__law_told : Option Addr} {sl__law_told : Array (Option Value)} {oc__law_told kV__law_told dc__law_told pm__law_told cd__law_told ct__law_told : Value}
    {od__law_changed an__law_changed : Option Addr} {sl__law_changed : Array (Option Value)} {oc__law_changed kV__law_changed dc__law_changed pm__law_changed cd__law_changed ct__law_changed : Value}
    {od_is_whole an_is_whole : Option Addr} {sl_is_whole : Array (Option Value)} {oc_is_whole kV_is_whole dc_is_whole pm_is_whole cd_is_whole ct_is_whole : Value}
    {od_are_signs an_are_signs : Option Addr} {sl_are_signs : Array (Option Value)} {oc_are_signs kV_are_signs dc_are_signs pm_are_signs cd_are_signs ct_are_signs : Value}
    {od_is_every an_is_every : Option Addr} {sl_is_every : Array (Option Value)} {oc_is_every kV_is_every dc_is_every pm_is_every cd_is_every ct_is_every : Value}
    {od_inner_of an_inner_of : Option Addr} {sl_inner_of : Array (Option Value)} {oc_inner_of kV_inner_of dc_inner_of pm_inner_of cd_inner_of ct_inner_of : Value}
    {od_is_beat an_is_beat : Option Addr} {sl_is_beat : Array (Option Value)} {oc_is_beat kV_is_beat dc_is_beat pm_is_beat cd_is_beat ct_is_beat : Value}
    {od__law_mix an__law_mix : Option Addr} {sl__law_mix : Array (Option Value)} {oc__law_mix kV__law_mix dc__law_mix pm__law_mix cd__law_mix ct__law_mix : Value}
    {od__law_next an__law_next : Option Addr} {sl__law_next : Array (Option Value)} {oc__law_next kV__law_next dc__law_next pm__law_next cd__law_next ct__law_next : Value}
    {od__law_whole an__law_whole : Option Addr} {sl__law_whole : Array (Option Value)} {oc__law_whole kV__law_whole dc__law_whole pm__law_whole cd__law_whole ct__law_whole : Value}
    {od__law_right an__law_right : Option Addr} {sl__law_right : Array (Option Value)} {oc__law_right kV__law_right dc__law_right pm__law_right cd__law_right ct__law_right : Value}
    {od__law_alike an__law_alike : Option Addr} {sl__law_alike : Array (Option Value)} {oc__law_alike kV__law_alike dc__law_alike pm__law_alike cd__law_alike ct__law_alike : Value}
    {od_read an_read : Option Addr} {sl_read : Array (Option Value)} {oc_read kV_read dc_read pm_read cd_read ct_read : Value}
    {od_law an_law : Option Addr} {sl_law : Array (Option Value)} {oc_law kV_law dc_law pm_law cd_law ct_law : Value}
    (a__law_text : PySem.W.nsIn K mainGlobals "_law_text" = some (some (.ref f__law_text))) (l__law_text : K.lookup f__law_text = some ⟨oc__law_text, od__law_text, .func (PySem.W.fnOf "_law_text" "_law_text" (defArgs s__law_text) (defBody s__law_text) (defScope s__law_text) .none kV__law_text dc__law_text pm__law_text an__law_text cd__law_text ct__law_text), sl__law_text⟩) (e__law_text : PySem.W.codeIn K cd__law_text "_law_text" = true) (k__law_text : PySem.W.keepIn K (.ref f__law_text) = true)
    (a__law_beat : PySem.W.nsIn K mainGlobals "_law_beat" = some (some (.ref f__law_beat))) (l__law_beat : K.lookup f__law_beat = some ⟨oc__law_beat, od__law_beat, .func (PySem.W.fnOf "_law_beat" "_law_beat" (defArgs s__law_beat) (defBody s__law_beat) (defScope s__law_beat) .none kV__law_beat dc__law_beat pm__law_beat an__law_beat cd__law_beat ct__law_beat), sl__law_beat⟩) (e__law_beat : PySem.W.codeIn K cd__law_beat "_law_beat" = true) (k__law_beat : PySem.W.keepIn K (.ref f__law_beat) = true)
    (a__law_counted : PySem.W.nsIn K mainGlobals "_law_counted" = some (some (.ref f__law_counted))) (l__law_counted : K.lookup f__law_counted = some ⟨oc__law_counted, od__law_counted, .func (PySem.W.fnOf "_law_counted" "_law_counted" (defArgs s__law_counted) (defBody s__law_counted) (defScope s__law_counted) .none kV__law_counted dc__law_counted pm__law_counted an__law_counted cd__law_counted ct__law_counted), sl__law_counted⟩) (e__law_counted : PySem.W.codeIn K cd__law_counted "_law_counted" = true) (k__law_counted : PySem.W.keepIn K (.ref f__law_counted) = true)
    (a__law_parsed : PySem.W.nsIn K mainGlobals "_law_parsed" = some (some (.ref f__law_parsed))) (l__law_parsed : K.lookup f__law_parsed = some ⟨oc__law_parsed, od__law_parsed, .func (PySem.W.fnOf "_law_parsed" "_law_parsed" (defArgs s__law_parsed) (defBody s__law_parsed) (defScope s__law_parsed) .none kV__law_parsed dc__law_parsed pm__law_parsed an__law_parsed cd__law_parsed ct__law_parsed), sl__law_parsed⟩) (e__law_parsed : PySem.W.codeIn K cd__law_parsed "_law_parsed" = true) (k__law_parsed : PySem.W.keepIn K (.ref f__law_parsed) = true)
    (a__law_numbered : PySem.W.nsIn K mainGlobals "_law_numbered" = some (some (.ref f__law_numbered))) (l__law_numbered : K.lookup f__law_numbered = some ⟨oc__law_numbered, od__law_numbered, .func (PySem.W.fnOf "_law_numbered" "_law_numbered" (defArgs s__law_numbered) (defBody s__law_numbered) (defScope s__law_numbered) .none kV__law_numbered dc__law_numbered pm__law_numbered an__law_numbered cd__law_numbered ct__law_numbered), sl__law_numbered⟩) (e__law_numbered : PySem.W.codeIn K cd__law_numbered "_law_numbered" = true) (k__law_numbered : PySem.W.keepIn K (.ref f__law_numbered) = true)
    (a__law_due : PySem.W.nsIn K mainGlobals "_law_due" = some (some (.ref f__law_due))) (l__law_due : K.lookup f__law_due = some ⟨oc__law_due, od__law_due, .func (PySem.W.fnOf "_law_due" "_law_due" (defArgs s__law_due) (defBody s__law_due) (defScope s__law_due) .none kV__law_due dc__law_due pm__law_due an__law_due cd__law_due ct__law_due), sl__law_due⟩) (e__law_due : PySem.W.codeIn K cd__law_due "_law_due" = true) (k__law_due : PySem.W.keepIn K (.ref f__law_due) = true)
    (a__law_told : PySem.W.nsIn K mainGlobals "_law_told" = some (some (.ref f__law_told))) (l__law_told : K.lookup f__law_told = some ⟨oc__law_told, od__law_told, .func (PySem.W.fnOf "_law_told" "_law_told" (defArgs s__law_told) (defBody s__law_told) (defScope s__law_told) .none kV__law_told dc__law_told pm__law_told an__law_told cd__law_told ct__law_told), sl__law_told⟩) (e__law_told : PySem.W.codeIn K cd__law_told "_law_told" = true) (k__law_told : PySem.W.keepIn K (.ref f__law_told) = true)
    (a__law_changed : PySem.W.nsIn K mainGlobals "_law_changed" = some (some (.ref f__law_changed))) (l__law_changed : K.lookup f__law_changed = some ⟨oc__law_changed, od__law_changed, .func (PySem.W.fnOf "_law_changed" "_law_changed" (defArgs s__law_changed) (defBody s__law_changed) (defScope s__law_changed) .none kV__law_changed dc__law_changed pm__law_changed an__law_changed cd__law_changed ct__law_changed), sl__law_changed⟩) (e__law_changed : PySem.W.codeIn K cd__law_changed "_law_changed" = true) (k__law_changed : PySem.W.keepIn K (.ref f__law_changed) = true)
    (a_is_whole : PySem.W.nsIn K mainGlobals "is_whole" = some (some (.ref f_is_whole))) (l_is_whole : K.lookup f_is_whole = some ⟨oc_is_whole, od_is_whole, .func (PySem.W.fnOf "is_whole" "is_whole" (defArgs s_is_whole) (defBody s_is_whole) (defScope s_is_whole) .none kV_is_whole dc_is_whole pm_is_whole an_is_whole cd_is_whole ct_is_whole), sl_is_whole⟩) (e_is_whole : PySem.W.codeIn K cd_is_whole "is_whole" = true) (k_is_whole : PySem.W.keepIn K (.ref f_is_whole) = true)
    (a_are_signs : PySem.W.nsIn K mainGlobals "are_signs" = some (some (.ref f_are_signs))) (l_are_signs : K.lookup f_are_signs = some ⟨oc_are_signs, od_are_signs, .func (PySem.W.fnOf "are_signs" "are_signs" (defArgs s_are_signs) (defBody s_are_signs) (defScope s_are_signs) .none kV_are_signs dc_are_signs pm_are_signs an_are_signs cd_are_signs ct_are_signs), sl_are_signs⟩) (e_are_signs : PySem.W.codeIn K cd_are_signs "are_signs" = true) (k_are_signs : PySem.W.keepIn K (.ref f_are_signs) = true)
    (a_is_every : PySem.W.nsIn K mainGlobals "is_every" = some (some (.ref f_is_every))) (l_is_every : K.lookup f_is_every = some ⟨oc_is_every, od_is_every, .func (PySem.W.fnOf "is_every" "is_every" (defArgs s_is_every) (defBody s_is_every) (defScope s_is_every) .none kV_is_every dc_is_every pm_is_every an_is_every cd_is_every ct_is_every), sl_is_every⟩) (e_is_every : PySem.W.codeIn K cd_is_every "is_every" = true) (k_is_every : PySem.W.keepIn K (.ref f_is_every) = true)
    (a_inner_of : PySem.W.nsIn K mainGlobals "inner_of" = some (some (.ref f_inner_of))) (l_inner_of : K.lookup f_inner_of = some ⟨oc_inner_of, od_inner_of, .func (PySem.W.fnOf "inner_of" "inner_of" (defArgs s_inner_of) (defBody s_inner_of) (defScope s_inner_of) .none kV_inner_of dc_inner_of pm_inner_of an_inner_of cd_inner_of ct_inner_of), sl_inner_of⟩) (e_inner_of : PySem.W.codeIn K cd_inner_of "inner_of" = true) (k_inner_of : PySem.W.keepIn K (.ref f_inner_of) = true)
    (a_is_beat : PySem.W.nsIn K mainGlobals "is_beat" = some (some (.ref f_is_beat))) (l_is_beat : K.lookup f_is_beat = some ⟨oc_is_beat, od_is_beat, .func (PySem.W.fnOf "is_beat" "is_beat" (defArgs s_is_beat) (defBody s_is_beat) (defScope s_is_beat) .none kV_is_beat dc_is_beat pm_is_beat an_is_beat cd_is_beat ct_is_beat), sl_is_beat⟩) (e_is_beat : PySem.W.codeIn K cd_is_beat "is_beat" = true) (k_is_beat : PySem.W.keepIn K (.ref f_is_beat) = true)
    (a__law_mix : PySem.W.nsIn K mainGlobals "_law_mix" = some (some (.ref f__law_mix))) (l__law_mix : K.lookup f__law_mix = some ⟨oc__law_mix, od__law_mix, .func (PySem.W.fnOf "_law_mix" "_law_mix" (defArgs s__law_mix) (defBody s__law_mix) (defScope s__law_mix) .none kV__law_mix dc__law_mix pm__law_mix an__law_mix cd__law_mix ct__law_mix), sl__law_mix⟩) (e__law_mix : PySem.W.codeIn K cd__law_mix "_law_mix" = true) (k__law_mix : PySem.W.keepIn K (.ref f__law_mix) = true)
    (a__law_next : PySem.W.nsIn K mainGlobals "_law_next" = some (some (.ref f__law_next))) (l__law_next : K.lookup f__law_next = some ⟨oc__law_next, od__law_next, .func (PySem.W.fnOf "_law_next" "_law_next" (defArgs s__law_next) (defBody s__law_next) (defScope s__law_next) .none kV__law_next dc__law_next pm__law_next an__law_next cd__law_next ct__law_next), sl__law_next⟩) (e__law_next : PySem.W.codeIn K cd__law_next "_law_next" = true) (k__law_next : PySem.W.keepIn K (.ref f__law_next) = true)
    (a__law_whole : PySem.W.nsIn K mainGlobals "_law_whole" = some (some (.ref f__law_whole))) (l__law_whole : K.lookup f__law_whole = some ⟨oc__law_whole, od__law_whole, .func (PySem.W.fnOf "_law_whole" "_law_whole" (defArgs s__law_whole) (defBody s__law_whole) (defScope s__law_whole) .none kV__law_whole dc__law_whole pm__law_whole an__law_whole cd__law_whole ct__law_whole), sl__law_whole⟩) (e__law_whole : PySem.W.codeIn K cd__law_whole "_law_whole" = true) (k__law_whole : PySem.W.keepIn K (.ref f__law_whole) = true)
    (a__law_right : PySem.W.nsIn K mainGlobals "_law_right" = some (some (.ref f__law_right))) (l__law_right : K.lookup f__law_right = some ⟨oc__law_right, od__law_right, .func (PySem.W.fnOf "_law_right" "_law_right" (defArgs s__law_right) (defBody s__law_right) (defScope s__law_right) .none kV__law_right dc__law_right pm__law_right an__law_right cd__law_right ct__law_right), sl__law_right⟩) (e__law_right : PySem.W.codeIn K cd__law_right "_law_right" = true) (k__law_right : PySem.W.keepIn K (.ref f__law_right) = true)
    (a__law_alike : PySem.W.nsIn K mainGlobals "_law_alike" = some (some (.ref f__law_alike))) (l__law_alike : K.lookup f__law_alike = some ⟨oc__law_alike, od__law_alike, .func (PySem.W.fnOf "_law_alike" "_law_alike" (defArgs s__law_alike) (defBody s__law_alike) (defScope s__law_alike) .none kV__law_alike dc__law_alike pm__law_alike an__law_alike cd__law_alike ct__law_alike), sl__law_alike⟩) (e__law_alike : PySem.W.codeIn K cd__law_alike "_law_alike" = true) (k__law_alike : PySem.W.keepIn K (.ref f__law_alike) = true)
    (a_read : PySem.W.nsIn K mainGlobals "read" = some (some (.ref f_read))) (l_read : K.lookup f_read = some ⟨oc_read, od_read, .func (PySem.W.fnOf "read" "read" (defArgs s_read) (defBody s_read) (defScope s_read) .none kV_read dc_read pm_read an_read cd_read ct_read), sl_read⟩) (e_read : PySem.W.codeIn K cd_read "read" = true) (k_read : PySem.W.keepIn K (.ref f_read) = true)
    (a_law : PySem.W.nsIn K mainGlobals "law" = some (some (.ref f_law))) (l_law : K.lookup f_law = some ⟨oc_law, od_law, .func (PySem.W.fnOf "law" "law" (defArgs s_law) (defBody s_law) (defScope s_law) .none kV_law dc_law pm_law an_law cd_law ct_law), sl_law⟩) (e_law : PySem.W.codeIn K cd_law "law" = true) (k_law : PySem.W.keepIn K (.ref f_law) = true)
    {r_SIGNS : Addr} {od_SIGNS : Option Addr} {n_SIGNS : Nat} {sl_SIGNS : Array (Option Value)} {t0_SIGNS t1_SIGNS : Tok} (g_SIGNS : PySem.W.nsIn K mainGlobals "SIGNS" = some (some (.ref r_SIGNS))) (q_SIGNS : K.lookup r_SIGNS = some ⟨.type "tuple", od_SIGNS, .seq #[.str "0" t0_SIGNS, .str "1" t1_SIGNS] n_SIGNS, sl_SIGNS⟩)
    {t_MOST_DIVIDED : Tok} (g_MOST_DIVIDED : PySem.W.nsIn K mainGlobals "MOST_DIVIDED" = some (some (.int 12 t_MOST_DIVIDED)))
    {r_OF_TWO : Addr} {od_OF_TWO : Option Addr} {n_OF_TWO : Nat} {sl_OF_TWO : Array (Option Value)} {t0_OF_TWO t1_OF_TWO t2_OF_TWO : Tok} (g_OF_TWO : PySem.W.nsIn K mainGlobals "OF_TWO" = some (some (.ref r_OF_TWO))) (q_OF_TWO : K.lookup r_OF_TWO = some ⟨.type "tuple", od_OF_TWO, .seq #[.str "either" t0_OF_TWO, .str "both" t1_OF_TWO, .str "but" t2_OF_TWO] n_OF_TWO, sl_OF_TWO⟩)
    {t_MOST_LATER : Tok} (g_MOST_LATER : PySem.W.nsIn K mainGlobals "MOST_LATER" = some (some (.int 99 t_MOST_LATER)))
    {t_MOST_LED : Tok} (g_MOST_LED : PySem.W.nsIn K mainGlobals "MOST_LED" = some (some (.int 9999 t_MOST_LED)))
    {t_MOST_TUPLES : Tok} (g_MOST_TUPLES : PySem.W.nsIn K mainGlobals "MOST_TUPLES" = some (some (.int 30 t_MOST_TUPLES)))
    {t_FIGURES : Tok} (g_FIGURES : PySem.W.nsIn K mainGlobals "FIGURES" = some (some (.str "0123456789" t_FIGURES)))
    {t_LETTERS : Tok} (g_LETTERS : PySem.W.nsIn K mainGlobals "LETTERS" = some (some (.str "abcdefghijklmnopqrstuvwxyz" t_LETTERS)))
    {t_MOST_FIGURES : Tok} (g_MOST_FIGURES : PySem.W.nsIn K mainGlobals "MOST_FIGURES" = some (some (.int 4 t_MOST_FIGURES)))
    {C_NoNote : Addr} (xg_NoNote : PySem.W.nsIn K mainGlobals "NoNote" = some (some (.ref C_NoNote))) (xq_NoNote : PySem.W.excIn K C_NoNote [.type "ValueError", .type "Exception", .type "BaseException", .type "object"] "ValueError.__new__" = true) (xk_NoNote : PySem.W.keepIn K (.ref C_NoNote) = true) (xs_NoNote : PySem.W.subIn K (.ref C_NoNote) (.type "BaseException") = some true) (xt_NoNote : PySem.W.typeIn K (.ref C_NoNote) = some (.type "type"))
    (z_len : PySem.W.nsIn K mainGlobals "len" = some none)
    (z_range : PySem.W.nsIn K mainGlobals "range" = some none)
    (z_list : PySem.W.nsIn K mainGlobals "list" = some none)
    (z_sum : PySem.W.nsIn K mainGlobals "sum" = some none)
    (z_zip : PySem.W.nsIn K mainGlobals "zip" = some none)
    (z_max : PySem.W.nsIn K mainGlobals "max" = some none)
    (z_min : PySem.W.nsIn K mainGlobals "min" = some none)
    (z_sorted : PySem.W.nsIn K mainGlobals "sorted" = some none)
    (z_set : PySem.W.nsIn K mainGlobals "set" = some none)
    (z_dict : PySem.W.nsIn K mainGlobals "dict" = some none)
    (z_enumerate : PySem.W.nsIn K mainGlobals "enumerate" = some none)
    (z_divmod : PySem.W.nsIn K mainGlobals "divmod" = some none)
    (z_isinstance : PySem.W.nsIn K mainGlobals "isinstance" = some none)
    (z_int : PySem.W.nsIn K mainGlobals "int" = some none)
    (z_str : PySem.W.nsIn K mainGlobals "str" = some none)
    (z_bool : PySem.W.nsIn K mainGlobals "bool" = some none)
    (z_tuple : PySem.W.nsIn K mainGlobals "tuple" = some none)
    (z_VE : PySem.W.nsIn K mainGlobals "ValueError" = some none)
    {C_BeatError : Addr} (y_BeatError : PySem.W.nsIn K mainGlobals "BeatError" = some (some (.ref C_BeatError)))
    {C_NoBeat : Addr} (y_NoBeat : PySem.W.nsIn K mainGlobals "NoBeat" = some (some (.ref C_NoBeat)))
    {C_TooLong : Addr} (y_TooLong : PySem.W.nsIn K mainGlobals "TooLong" = some (some (.ref C_TooLong)))
    {C_Ends : Addr} (y_Ends : PySem.W.nsIn K mainGlobals "Ends" = some (some (.ref C_Ends)))
    {C_BadStock : Addr} (y_BadStock : PySem.W.nsIn K mainGlobals "BadStock" = some (some (.ref C_BadStock)))
    {C_NoWish : Addr} (y_NoWish : PySem.W.nsIn K mainGlobals "NoWish" = some (some (.ref C_NoWish)))
    (e1_BE : PySem.W.subIn K (.ref C_BeatError) (.type "BaseException") = some true) (e2_BE : PySem.W.hasDictIn K C_BeatError = true) (e3_BE : PySem.W.typeIn K (.ref C_BeatError) = some (.type "type"))
    (hg_NoNote : PySem.W.findIn K (.ref C_NoNote) "__getattribute__" = some (some (.builtin "BaseException.__getattribute__")))
    (hk_NoNote : PySem.W.findIn K (.ref C_NoNote) "__getattr__" = some none)
    (hs_NoNote : PySem.W.subIn K (.ref C_NoNote) (.type "BaseException") = some true)
    (hd_NoNote : PySem.W.hasDictIn K C_NoNote = true)
    (ha_NoNote : PySem.W.findIn K (.ref C_NoNote) "__class__" = some (some (.builtin "object.__class__")))
    (hm_NoNote : PySem.W.mroIn K C_NoNote (.type "object") = some true)
    (hb_NoNote : PySem.W.subIn K (.ref C_NoNote) (.ref C_BeatError) = some true)
    (i0_NoNote : PySem.W.kitOne K (.ref C_NoNote) (.ref C_NoBeat) = some false)
    (i1_NoNote : PySem.W.kitOne K (.ref C_NoNote) (.ref C_TooLong) = some false)
    (i2_NoNote : PySem.W.kitOne K (.ref C_NoNote) (.ref C_Ends) = some false)
    (i3_NoNote : PySem.W.kitOne K (.ref C_NoNote) (.ref C_BadStock) = some false)
    (i4_NoNote : PySem.W.kitOne K (.ref C_NoNote) (.ref C_NoWish) = some false)
    (i5_NoNote : PySem.W.kitOne K (.ref C_NoNote) (.ref C_NoNote) = some true)
    (iv_NoNote : PySem.W.kitOne K (.ref C_NoNote) (.type "ValueError") = some true)
    (hn_oc : PySem.W.specialIn K (.builtin "object.__class__") "__get__" = some (some (.builtin "getset_descriptor.__get__"))) (ht_oc : PySem.W.takesIn K (.builtin "object.__class__") = some true)
    {C_Reader : Addr} (r_g : PySem.W.nsIn K mainGlobals "Reader" = some (some (.ref C_Reader))) (r_pg : PySem.W.plainGet K C_Reader Str.empty = true) (r_hd : PySem.W.hasDictIn K C_Reader = true) (r_po : PySem.W.plainOver K C_Reader = true) (r_sa : PySem.W.findIn K (.ref C_Reader) "__setattr__" = some (some (.builtin "object.__setattr__"))) (r_mk : PySem.W.makesIn K C_Reader = true) (r_kc : PySem.W.keepIn K (.ref C_Reader) = true)
    (r_nT : PySem.W.findIn K (.ref C_Reader) "text" = some none) (r_nP : PySem.W.findIn K (.ref C_Reader) "place" = some none) (r_nM : PySem.W.findIn K (.ref C_Reader) "many" = some none)
    {f_Reader___init__ : Addr} {od_Reader___init__ an_Reader___init__ : Option Addr} {sl_Reader___init__ : Array (Option Value)} {oc_Reader___init__ kV_Reader___init__ dc_Reader___init__ pm_Reader___init__ cd_Reader___init__ ct_Reader___init__ : Value} (ra_Reader___init__ : PySem.W.findIn K (.ref C_Reader) "__init__" = some (some (.ref f_Reader___init__))) (ri_Reader___init__ : PySem.W.isFn K (.ref f_Reader___init__) = true) (l_Reader___init__ : K.lookup f_Reader___init__ = some ⟨oc_Reader___init__, od_Reader___init__, .func (PySem.W.fnOf "__init__" "Reader.__init__" (defArgs s_Reader___init__) (defBody s_Reader___init__) (defScope s_Reader___init__) .none kV_Reader___init__ dc_Reader___init__ pm_Reader___init__ an_Reader___init__ cd_Reader___init__ ct_Reader___init__), sl_Reader___init__⟩) (e_Reader___init__ : PySem.W.codeIn K cd_Reader___init__ "Reader.__init__" = true) (k_Reader___init__ : PySem.W.keepIn K (.ref f_Reader___init__) = true)
    {f_Reader_must : Addr} {od_Reader_must an_Reader_must : Option Addr} {sl_Reader_must : Array (Option Value)} {oc_Reader_must kV_Reader_must dc_Reader_must pm_Reader_must cd_Reader_must ct_Reader_must : Value} (ra_Reader_must : PySem.W.findIn K (.ref C_Reader) "must" = some (some (.ref f_Reader_must))) (ri_Reader_must : PySem.W.isFn K (.ref f_Reader_must) = true) (l_Reader_must : K.lookup f_Reader_must = some ⟨oc_Reader_must, od_Reader_must, .func (PySem.W.fnOf "must" "Reader.must" (defArgs s_Reader_must) (defBody s_Reader_must) (defScope s_Reader_must) .none kV_Reader_must dc_Reader_must pm_Reader_must an_Reader_must cd_Reader_must ct_Reader_must), sl_Reader_must⟩) (e_Reader_must : PySem.W.codeIn K cd_Reader_must "Reader.must" = true) (k_Reader_must : PySem.W.keepIn K (.ref f_Reader_must) = true)
    {f_Reader_skip : Addr} {od_Reader_skip an_Reader_skip : Option Addr} {sl_Reader_skip : Array (Option Value)} {oc_Reader_skip kV_Reader_skip dc_Reader_skip pm_Reader_skip cd_Reader_skip ct_Reader_skip : Value} (ra_Reader_skip : PySem.W.findIn K (.ref C_Reader) "skip" = some (some (.ref f_Reader_skip))) (ri_Reader_skip : PySem.W.isFn K (.ref f_Reader_skip) = true) (l_Reader_skip : K.lookup f_Reader_skip = some ⟨oc_Reader_skip, od_Reader_skip, .func (PySem.W.fnOf "skip" "Reader.skip" (defArgs s_Reader_skip) (defBody s_Reader_skip) (defScope s_Reader_skip) .none kV_Reader_skip dc_Reader_skip pm_Reader_skip an_Reader_skip cd_Reader_skip ct_Reader_skip), sl_Reader_skip⟩) (e_Reader_skip : PySem.W.codeIn K cd_Reader_skip "Reader.skip" = true) (k_Reader_skip : PySem.W.keepIn K (.ref f_Reader_skip) = true)
    {f_Reader_run : Addr} {od_Reader_run an_Reader_run : Option Addr} {sl_Reader_run : Array (Option Value)} {oc_Reader_run kV_Reader_run dc_Reader_run pm_Reader_run cd_Reader_run ct_Reader_run : Value} (ra_Reader_run : PySem.W.findIn K (.ref C_Reader) "run" = some (some (.ref f_Reader_run))) (ri_Reader_run : PySem.W.isFn K (.ref f_Reader_run) = true) (l_Reader_run : K.lookup f_Reader_run = some ⟨oc_Reader_run, od_Reader_run, .func (PySem.W.fnOf "run" "Reader.run" (defArgs s_Reader_run) (defBody s_Reader_run) (defScope s_Reader_run) .none kV_Reader_run dc_Reader_run pm_Reader_run an_Reader_run cd_Reader_run ct_Reader_run), sl_Reader_run⟩) (e_Reader_run : PySem.W.codeIn K cd_Reader_run "Reader.run" = true) (k_Reader_run : PySem.W.keepIn K (.ref f_Reader_run) = true)
    {f_Reader_number : Addr} {od_Reader_number an_Reader_number : Option Addr} {sl_Reader_number : Array (Option Value)} {oc_Reader_number kV_Reader_number dc_Reader_number pm_Reader_number cd_Reader_number ct_Reader_number : Value} (ra_Reader_number : PySem.W.findIn K (.ref C_Reader) "number" = some (some (.ref f_Reader_number))) (ri_Reader_number : PySem.W.isFn K (.ref f_Reader_number) = true) (l_Reader_number : K.lookup f_Reader_number = some ⟨oc_Reader_number, od_Reader_number, .func (PySem.W.fnOf "number" "Reader.number" (defArgs s_Reader_number) (defBody s_Reader_number) (defScope s_Reader_number) .none kV_Reader_number dc_Reader_number pm_Reader_number an_Reader_number cd_Reader_number ct_Reader_number), sl_Reader_number⟩) (e_Reader_number : PySem.W.codeIn K cd_Reader_number "Reader.number" = true) (k_Reader_number : PySem.W.keepIn K (.ref f_Reader_number) = true)
    {f_Reader_inner : Addr} {od_Reader_inner an_Reader_inner : Option Addr} {sl_Reader_inner : Array (Option Value)} {oc_Reader_inner kV_Reader_inner dc_Reader_inner pm_Reader_inner cd_Reader_inner ct_Reader_inner : Value} (ra_Reader_inner : PySem.W.findIn K (.ref C_Reader) "inner" = some (some (.ref f_Reader_inner))) (ri_Reader_inner : PySem.W.isFn K (.ref f_Reader_inner) = true) (l_Reader_inner : K.lookup f_Reader_inner = some ⟨oc_Reader_inner, od_Reader_inner, .func (PySem.W.fnOf "inner" "Reader.inner" (defArgs s_Reader_inner) (defBody s_Reader_inner) (defScope s_Reader_inner) .none kV_Reader_inner dc_Reader_inner pm_Reader_inner an_Reader_inner cd_Reader_inner ct_Reader_inner), sl_Reader_inner⟩) (e_Reader_inner : PySem.W.codeIn K cd_Reader_inner "Reader.inner" = true) (k_Reader_inner : PySem.W.keepIn K (.ref f_Reader_inner) = true)
    {f_Reader_signs_there : Addr} {od_Reader_signs_there an_Reader_signs_there : Option Addr} {sl_Reader_signs_there : Array (Option Value)} {oc_Reader_signs_there kV_Reader_signs_there dc_Reader_signs_there pm_Reader_signs_there cd_Reader_signs_there ct_Reader_signs_there : Value} (ra_Reader_signs_there : PySem.W.findIn K (.ref C_Reader) "signs_there" = some (some (.ref f_Reader_signs_there))) (ri_Reader_signs_there : PySem.W.isFn K (.ref f_Reader_signs_there) = true) (l_Reader_signs_there : K.lookup f_Reader_signs_there = some ⟨oc_Reader_signs_there, od_Reader_signs_there, .func (PySem.W.fnOf "signs_there" "Reader.signs_there" (defArgs s_Reader_signs_there) (defBody s_Reader_signs_there) (defScope s_Reader_signs_there) .none kV_Reader_signs_there dc_Reader_signs_there pm_Reader_signs_there an_Reader_signs_there cd_Reader_signs_there ct_Reader_signs_there), sl_Reader_signs_there⟩) (e_Reader_signs_there : PySem.W.codeIn K cd_Reader_signs_there "Reader.signs_there" = true) (k_Reader_signs_there : PySem.W.keepIn K (.ref f_Reader_signs_there) = true)
    {f_Reader_beat : Addr} {od_Reader_beat an_Reader_beat : Option Addr} {sl_Reader_beat : Array (Option Value)} {oc_Reader_beat kV_Reader_beat dc_Reader_beat pm_Reader_beat cd_Reader_beat ct_Reader_beat : Value} (ra_Reader_beat : PySem.W.findIn K (.ref C_Reader) "beat" = some (some (.ref f_Reader_beat))) (ri_Reader_beat : PySem.W.isFn K (.ref f_Reader_beat) = true) (l_Reader_beat : K.lookup f_Reader_beat = some ⟨oc_Reader_beat, od_Reader_beat, .func (PySem.W.fnOf "beat" "Reader.beat" (defArgs s_Reader_beat) (defBody s_Reader_beat) (defScope s_Reader_beat) .none kV_Reader_beat dc_Reader_beat pm_Reader_beat an_Reader_beat cd_Reader_beat ct_Reader_beat), sl_Reader_beat⟩) (e_Reader_beat : PySem.W.codeIn K cd_Reader_beat "Reader.beat" = true) (k_Reader_beat : PySem.W.keepIn K (.ref f_Reader_beat) = true)
    {f_Reader_parts : Addr} {od_Reader_parts an_Reader_parts : Option Addr} {sl_Reader_parts : Array (Option Value)} {oc_Reader_parts kV_Reader_parts dc_Reader_parts pm_Reader_parts cd_Reader_parts ct_Reader_parts : Value} (ra_Reader_parts : PySem.W.findIn K (.ref C_Reader) "parts" = some (some (.ref f_Reader_parts))) (ri_Reader_parts : PySem.W.isFn K (.ref f_Reader_parts) = true) (l_Reader_parts : K.lookup f_Reader_parts = some ⟨oc_Reader_parts, od_Reader_parts, .func (PySem.W.fnOf "parts" "Reader.parts" (defArgs s_Reader_parts) (defBody s_Reader_parts) (defScope s_Reader_parts) .none kV_Reader_parts dc_Reader_parts pm_Reader_parts an_Reader_parts cd_Reader_parts ct_Reader_parts), sl_Reader_parts⟩) (e_Reader_parts : PySem.W.codeIn K cd_Reader_parts "Reader.parts" = true) (k_Reader_parts : PySem.W.keepIn K (.ref f_Reader_parts) = true)
    : ∃ fd : FuncData, (∀ (s : Shared) (v : Value), BindsTo s fd ⟨[v], []⟩ [("_law_script", v)]) ∧ ∀ base : Heap, K.In base → base.Ns mainGlobals mg → FnOk l.prog w K mg base CX0 105 fa fd ["_law_script"] (spLaw K) := by
  have e := hfa.symm.trans (PySem.W.mg_of X G a_law)
  cases e
  have m__law_text := PySem.W.mg_of X G a__law_text
  have F__law_text := fun_mk (st := s__law_text) l__law_text e__law_text k__law_text
  have b__law_text := F__law_text.binds (ps := ["_law_beat_here"]) fun _ _ _ _ _ _ us hl => match us, hl with | [_], _ => rfl
  have m__law_beat := PySem.W.mg_of X G a__law_beat
  have F__law_beat := fun_mk (st := s__law_beat) l__law_beat e__law_beat k__law_beat
  have b__law_beat := F__law_beat.binds (ps := ["_law_h", "_law_deep"]) fun _ _ _ _ _ _ us hl => match us, hl with | [_, _], _ => rfl
  have m__law_counted := PySem.W.mg_of X G a__law_counted
  have F__law_counted := fun_mk (st := s__law_counted) l__law_counted e__law_counted k__law_counted
  have b__law_counted := F__law_counted.binds (ps := ["_law_beat_here"]) fun _ _ _ _ _ _ us hl => match us, hl with | [_], _ => rfl
  have m__law_parsed := PySem.W.mg_of X G a__law_parsed
  have F__law_parsed := fun_mk (st := s__law_parsed) l__law_parsed e__law_parsed k__law_parsed
  have b__law_parsed := F__law_parsed.binds (ps := ["_law_text_here", "_law_at"]) fun _ _ _ _ _ _ us hl => match us, hl with | [_, _], _ => rfl
  have m__law_numbered := PySem.W.mg_of X G a__law_numbered
  have F__law_numbered := fun_mk (st := s__law_numbered) l__law_numbered e__law_numbered k__law_numbered
  have b__law_numbered := F__law_numbered.binds (ps := ["_law_beat_here"]) fun _ _ _ _ _ _ us hl => match us, hl with | [_], _ => rfl
  have m__law_due := PySem.W.mg_of X G a__law_due
  have F__law_due := fun_mk (st := s__law_due) l__law_due e__law_due k__law_due
  have b__law_due := F__law_due.binds (ps := ["_law_text_here"]) fun _ _ _ _ _ _ us hl => match us, hl with | [_], _ => rfl
  have m__law_told := PySem.W.mg_of X G a__law_told
  have F__law_told := fun_mk (st := s__law_told) l__law_told e__law_told k__law_told
  have b__law_told := F__law_told.binds (ps := ["_law_text_here"]) fun _ _ _ _ _ _ us hl => match us, hl with | [_], _ => rfl
  have m__law_changed := PySem.W.mg_of X G a__law_changed
  have F__law_changed := fun_mk (st := s__law_changed) l__law_changed e__law_changed k__law_changed
  have b__law_changed := F__law_changed.binds (ps := ["_law_h", "_law_text_here"]) fun _ _ _ _ _ _ us hl => match us, hl with | [_, _], _ => rfl
  have m_is_whole := PySem.W.mg_of X G a_is_whole
  have F_is_whole := fun_mk (st := s_is_whole) l_is_whole e_is_whole k_is_whole
  have b_is_whole := F_is_whole.binds (ps := ["thing", "least", "most"]) fun _ _ _ _ _ _ us hl => match us, hl with | [_, _, _], _ => rfl
  have m_are_signs := PySem.W.mg_of X G a_are_signs
  have F_are_signs := fun_mk (st := s_are_signs) l_are_signs e_are_signs k_are_signs
  have b_are_signs := F_are_signs.binds (ps := ["thing"]) fun _ _ _ _ _ _ us hl => match us, hl with | [_], _ => rfl
  have m_is_every := PySem.W.mg_of X G a_is_every
  have F_is_every := fun_mk (st := s_is_every) l_is_every e_is_every k_is_every
  have b_is_every := F_is_every.binds (ps := ["beat"]) fun _ _ _ _ _ _ us hl => match us, hl with | [_], _ => rfl
  have m_inner_of := PySem.W.mg_of X G a_inner_of
  have F_inner_of := fun_mk (st := s_inner_of) l_inner_of e_inner_of k_inner_of
  have b_inner_of := F_inner_of.binds (ps := ["beat"]) fun _ _ _ _ _ _ us hl => match us, hl with | [_], _ => rfl
  have m_is_beat := PySem.W.mg_of X G a_is_beat
  have F_is_beat := fun_mk (st := s_is_beat) l_is_beat e_is_beat k_is_beat
  have b_is_beat := F_is_beat.binds (ps := ["beat"]) fun _ _ _ _ _ _ us hl => match us, hl with | [_], _ => rfl
  have m__law_mix := PySem.W.mg_of X G a__law_mix
  have F__law_mix := fun_mk (st := s__law_mix) l__law_mix e__law_mix k__law_mix
  have b__law_mix := F__law_mix.binds (ps := ["_law_script", "_law_seed"]) fun _ _ _ _ _ _ us hl => match us, hl with | [_, _], _ => rfl
  have m__law_next := PySem.W.mg_of X G a__law_next
  have F__law_next := fun_mk (st := s__law_next) l__law_next e__law_next k__law_next
  have b__law_next := F__law_next.binds (ps := ["_law_h", "_law_many"]) fun _ _ _ _ _ _ us hl => match us, hl with | [_, _], _ => rfl
  have m__law_whole := PySem.W.mg_of X G a__law_whole
  have F__law_whole := fun_mk (st := s__law_whole) l__law_whole e__law_whole k__law_whole
  have b__law_whole := F__law_whole.binds (ps := ["_law_thing", "_law_least", "_law_most"]) fun _ _ _ _ _ _ us hl => match us, hl with | [_, _, _], _ => rfl
  have m__law_right := PySem.W.mg_of X G a__law_right
  have F__law_right := fun_mk (st := s__law_right) l__law_right e__law_right k__law_right
  have b__law_right := F__law_right.binds (ps := ["_law_beat_here"]) fun _ _ _ _ _ _ us hl => match us, hl with | [_], _ => rfl
  have m__law_alike := PySem.W.mg_of X G a__law_alike
  have F__law_alike := fun_mk (st := s__law_alike) l__law_alike e__law_alike k__law_alike
  have b__law_alike := F__law_alike.binds (ps := ["_law_found", "_law_due_here"]) fun _ _ _ _ _ _ us hl => match us, hl with | [_, _], _ => rfl
  have m_read := PySem.W.mg_of X G a_read
  have F_read := fun_mk (st := s_read) l_read e_read k_read
  have b_read := F_read.binds (ps := ["text"]) fun _ _ _ _ _ _ us hl => match us, hl with | [_], _ => rfl
  have m_law := PySem.W.mg_of X G a_law
  have F_law := fun_mk (st := s_law) l_law e_law k_law
  have b_law := F_law.binds (ps := ["_law_script"]) fun _ _ _ _ _ _ us hl => match us, hl with | [_], _ => rfl
  have B : Blt mg := ⟨PySem.W.mg_none_of X G z_len, PySem.W.mg_none_of X G z_range, PySem.W.mg_none_of X G z_list, PySem.W.mg_none_of X G z_sum, PySem.W.mg_none_of X G z_zip, PySem.W.mg_none_of X G z_max, PySem.W.mg_none_of X G z_min, PySem.W.mg_none_of X G z_sorted, PySem.W.mg_none_of X G z_set, PySem.W.mg_none_of X G z_dict, PySem.W.mg_none_of X G z_enumerate, PySem.W.mg_none_of X G z_divmod, PySem.W.mg_none_of X G z_isinstance, PySem.W.mg_none_of X G z_int, PySem.W.mg_none_of X G z_str, PySem.W.mg_none_of X G z_bool, PySem.W.mg_none_of X G z_tuple⟩
  have g_SIGNS : ∃ u, mg "SIGNS" = some u ∧ RelV (.ref r_SIGNS) u := ⟨_, PySem.W.mg_of X G g_SIGNS, rfl⟩
  have q_SIGNS : ∀ H : Hp, SqT K H r_SIGNS [.str "0", .str "1"] := fun H => .inr ⟨_, _, _, q_SIGNS, rfl, rfl, (by show 2 ≤ sizeLine; decide), .cons ⟨_, rfl⟩ (.cons ⟨_, rfl⟩ (.nil))⟩
  have g_MOST_DIVIDED : ∃ u, mg "MOST_DIVIDED" = some u ∧ RelV (.int 12) u := ⟨_, PySem.W.mg_of X G g_MOST_DIVIDED, _, rfl⟩
  have g_OF_TWO : ∃ u, mg "OF_TWO" = some u ∧ RelV (.ref r_OF_TWO) u := ⟨_, PySem.W.mg_of X G g_OF_TWO, rfl⟩
  have q_OF_TWO : ∀ H : Hp, SqT K H r_OF_TWO [.str "either", .str "both", .str "but"] := fun H => .inr ⟨_, _, _, q_OF_TWO, rfl, rfl, (by show 3 ≤ sizeLine; decide), .cons ⟨_, rfl⟩ (.cons ⟨_, rfl⟩ (.cons ⟨_, rfl⟩ (.nil)))⟩
  have g_MOST_LATER : ∃ u, mg "MOST_LATER" = some u ∧ RelV (.int 99) u := ⟨_, PySem.W.mg_of X G g_MOST_LATER, _, rfl⟩
  have g_MOST_LED : ∃ u, mg "MOST_LED" = some u ∧ RelV (.int 9999) u := ⟨_, PySem.W.mg_of X G g_MOST_LED, _, rfl⟩
  have g_MOST_TUPLES : ∃ u, mg "MOST_TUPLES" = some u ∧ RelV (.int 30) u := ⟨_, PySem.W.mg_of X G g_MOST_TUPLES, _, rfl⟩
  have g_FIGURES : ∃ u, mg "FIGURES" = some u ∧ RelV (.str "0123456789") u := ⟨_, PySem.W.mg_of X G g_FIGURES, _, rfl⟩
  have g_LETTERS : ∃ u, mg "LETTERS" = some u ∧ RelV (.str "abcdefghijklmnopqrstuvwxyz") u := ⟨_, PySem.W.mg_of X G g_LETTERS, _, rfl⟩
  have g_MOST_FIGURES : ∃ u, mg "MOST_FIGURES" = some u ∧ RelV (.int 4) u := ⟨_, PySem.W.mg_of X G g_MOST_FIGURES, _, rfl⟩
  have T_NoNote : ExC K mg "NoNote" C_NoNote := ⟨PySem.W.mg_of X G xg_NoNote, xq_NoNote, xk_NoNote, xs_NoNote, xt_NoNote⟩
  have m_VE : mg "ValueError" = none := PySem.W.mg_none_of X G z_VE
  have m_BeatError : mg "BeatError" = some (.ref C_BeatError) := PySem.W.mg_of X G y_BeatError
  have m_NoBeat : mg "NoBeat" = some (.ref C_NoBeat) := PySem.W.mg_of X G y_NoBeat
  have m_TooLong : mg "TooLong" = some (.ref C_TooLong) := PySem.W.mg_of X G y_TooLong
  have m_Ends : mg "Ends" = some (.ref C_Ends) := PySem.W.mg_of X G y_Ends
  have m_BadStock : mg "BadStock" = some (.ref C_BadStock) := PySem.W.mg_of X G y_BadStock
  have m_NoWish : mg "NoWish" = some (.ref C_NoWish) := PySem.W.mg_of X G y_NoWish
  have m_NoNote : mg "NoNote" = some (.ref C_NoNote) := PySem.W.mg_of X G xg_NoNote
  have KC : KindCs mg C_BeatError C_NoBeat C_TooLong C_Ends C_BadStock C_NoWish C_NoNote := ⟨m_VE, m_BeatError, ⟨_, m_NoBeat, rfl⟩, ⟨_, m_TooLong, rfl⟩, ⟨_, m_Ends, rfl⟩, ⟨_, m_BadStock, rfl⟩, ⟨_, m_NoWish, rfl⟩, ⟨_, m_NoNote, rfl⟩⟩
  have KA_NoNote : KindAt K C_BeatError C_NoBeat C_TooLong C_Ends C_BadStock C_NoWish C_NoNote C_NoNote 5 := ⟨⟨hg_NoNote, hk_NoNote, hs_NoNote, hd_NoNote, ha_NoNote, hn_oc, ht_oc, hm_NoNote⟩, PySem.W.exm_ref e1_BE e2_BE e3_BE hb_NoNote, i0_NoNote, i1_NoNote, i2_NoNote, i3_NoNote, i4_NoNote, i5_NoNote, iv_NoNote⟩
  have RC : RdC K mg C_Reader := ⟨⟨r_pg, r_hd, r_po, r_sa⟩, r_nT, r_nP, r_nM, PySem.W.mg_of X G r_g⟩
  have F_Reader___init__ := fun_mk (st := s_Reader___init__) l_Reader___init__ e_Reader___init__ k_Reader___init__
  have b_Reader___init__ := F_Reader___init__.binds (ps := ["self", "text"]) fun _ _ _ _ _ _ us hl => match us, hl with | [_, _], _ => rfl
  have F_Reader_must := fun_mk (st := s_Reader_must) l_Reader_must e_Reader_must k_Reader_must
  have b_Reader_must := F_Reader_must.binds (ps := ["self", "good"]) fun _ _ _ _ _ _ us hl => match us, hl with | [_, _], _ => rfl
  have F_Reader_skip := fun_mk (st := s_Reader_skip) l_Reader_skip e_Reader_skip k_Reader_skip
  have b_Reader_skip := F_Reader_skip.binds (ps := ["self", "sign"]) fun _ _ _ _ _ _ us hl => match us, hl with | [_, _], _ => rfl
  have F_Reader_run := fun_mk (st := s_Reader_run) l_Reader_run e_Reader_run k_Reader_run
  have b_Reader_run := F_Reader_run.binds (ps := ["self", "some"]) fun _ _ _ _ _ _ us hl => match us, hl with | [_, _], _ => rfl
  have F_Reader_number := fun_mk (st := s_Reader_number) l_Reader_number e_Reader_number k_Reader_number
  have b_Reader_number := F_Reader_number.binds (ps := ["self"]) fun _ _ _ _ _ _ us hl => match us, hl with | [_], _ => rfl
  have F_Reader_inner := fun_mk (st := s_Reader_inner) l_Reader_inner e_Reader_inner k_Reader_inner
  have b_Reader_inner := F_Reader_inner.binds (ps := ["self"]) fun _ _ _ _ _ _ us hl => match us, hl with | [_], _ => rfl
  have F_Reader_signs_there := fun_mk (st := s_Reader_signs_there) l_Reader_signs_there e_Reader_signs_there k_Reader_signs_there
  have b_Reader_signs_there := F_Reader_signs_there.binds (ps := ["self"]) fun _ _ _ _ _ _ us hl => match us, hl with | [_], _ => rfl
  have F_Reader_beat := fun_mk (st := s_Reader_beat) l_Reader_beat e_Reader_beat k_Reader_beat
  have b_Reader_beat := F_Reader_beat.binds (ps := ["self"]) fun _ _ _ _ _ _ us hl => match us, hl with | [_], _ => rfl
  have F_Reader_parts := fun_mk (st := s_Reader_parts) l_Reader_parts e_Reader_parts k_Reader_parts
  have b_Reader_parts := F_Reader_parts.binds (ps := ["self", "word"]) fun _ _ _ _ _ _ us hl => match us, hl with | [_, _], _ => rfl
  refine ⟨PySem.W.fnOf "law" "law" (defArgs s_law) (defBody s_law) (defScope s_law) .none kV_law dc_law pm_law an_law cd_law ct_law, fun s v => .of_eq rfl, fun base _ _ => ?_⟩
  have c_is_whole := Dn.of0 (P := l.prog) (w := w) (base := base) (ok_is_whole F_is_whole B) m_is_whole k_is_whole b_is_whole
  have c_are_signs := Dn.of0 (P := l.prog) (w := w) (base := base) (ok_are_signs F_are_signs B g_SIGNS q_SIGNS g_MOST_DIVIDED) m_are_signs k_are_signs b_are_signs
  have c_is_every := Dn.of0 (P := l.prog) (w := w) (base := base) (ok_is_every F_is_every g_MOST_DIVIDED c_is_whole) m_is_every k_is_every b_is_every
  have c_inner_of := Dn.of0 (P := l.prog) (w := w) (base := base) (ok_inner_of F_inner_of B g_OF_TWO q_OF_TWO g_MOST_LATER g_MOST_LED c_is_whole c_are_signs c_is_every) m_inner_of k_inner_of b_inner_of
  have c_is_beat := Dn.of0 (P := l.prog) (w := w) (base := base) (ok_is_beat F_is_beat B g_MOST_TUPLES c_inner_of) m_is_beat k_is_beat b_is_beat
  have c__law_mix := Dn.of0 (P := l.prog) (w := w) (base := base) (mix_view (ok_mix0 F__law_mix B)) m__law_mix k__law_mix b__law_mix
  have c__law_next := Dn.of0 (P := l.prog) (w := w) (base := base) (next_view (ok_next0 F__law_next B)) m__law_next k__law_next b__law_next
  have c__law_beat := ok__law_beats (P := l.prog) (w := w) (base := base) F__law_beat B m__law_beat k__law_beat b__law_beat c__law_next 4
  have c__law_text := ok__law_texts (P := l.prog) (w := w) (base := base) F__law_text B m__law_text k__law_text b__law_text 61
  have c__law_whole := Dn.of0 (P := l.prog) (w := w) (base := base) (ok__law_whole F__law_whole B) m__law_whole k__law_whole b__law_whole
  have c__law_right := Dn.of0 (P := l.prog) (w := w) (base := base) (ok__law_right F__law_right B c__law_whole) m__law_right k__law_right b__law_right
  have c__law_counted := ok__law_counteds (P := l.prog) (w := w) (base := base) F__law_counted B m__law_counted k__law_counted b__law_counted c__law_right 61
  have c__law_parsed := ok__law_parseds (P := l.prog) (w := w) (base := base) F__law_parsed B m__law_parsed k__law_parsed b__law_parsed 60
  have c__law_numbered := ok__law_numbereds (P := l.prog) (w := w) (base := base) F__law_numbered B m__law_numbered k__law_numbered b__law_numbered 60
  have c__law_due := Dn.of0 (P := l.prog) (w := w) (base := base) (ok__law_due16 F__law_due B c__law_parsed c__law_numbered c__law_counted) m__law_due k__law_due b__law_due
  have c__law_alike := Dn.of0 (P := l.prog) (w := w) (base := base) (ok_alike F__law_alike B m__law_alike k__law_alike b__law_alike 40) m__law_alike k__law_alike b__law_alike
  have MK : MkR l.prog w K mg base C_Reader 1 (spRInit C_Reader) := ⟨_, _, _, up (ok_rdInit F_Reader___init__ RC), ⟨r_mk, ra_Reader___init__, ri_Reader___init__, r_kc⟩, b_Reader___init__⟩
  have c_Reader_must := Mn.of (P := l.prog) (w := w) (base := base) (ok_rdMust F_Reader_must T_NoNote) ⟨ra_Reader_must, ri_Reader_must, k_Reader_must⟩ b_Reader_must
  have c_Reader_skip := Mn.of (P := l.prog) (w := w) (base := base) (ok_rdSkip F_Reader_skip RC c_Reader_must) ⟨ra_Reader_skip, ri_Reader_skip, k_Reader_skip⟩ b_Reader_skip
  have c_Reader_run := Mn.of0 (P := l.prog) (w := w) (base := base) (ok_rdRun F_Reader_run B RC) ⟨ra_Reader_run, ri_Reader_run, k_Reader_run⟩ b_Reader_run
  have c_Reader_number := Mn.of (P := l.prog) (w := w) (base := base) (ok_rdNumber F_Reader_number B RC g_FIGURES g_MOST_FIGURES c_Reader_must c_Reader_skip c_Reader_run) ⟨ra_Reader_number, ri_Reader_number, k_Reader_number⟩ b_Reader_number
  have c_Reader_signs_there := Mn.of (P := l.prog) (w := w) (base := base) (ok_rdSigns F_Reader_signs_there RC g_FIGURES c_Reader_skip c_Reader_run) ⟨ra_Reader_signs_there, ri_Reader_signs_there, k_Reader_signs_there⟩ b_Reader_signs_there
  have c_Reader_beat := ok_rdBeats F_Reader_beat F_Reader_inner F_Reader_parts ⟨ra_Reader_beat, ri_Reader_beat, k_Reader_beat⟩ ⟨ra_Reader_inner, ri_Reader_inner, k_Reader_inner⟩ ⟨ra_Reader_parts, ri_Reader_parts, k_Reader_parts⟩ b_Reader_beat b_Reader_inner b_Reader_parts RC g_OF_TWO q_OF_TWO g_MOST_TUPLES g_LETTERS c_Reader_must c_Reader_skip c_Reader_run c_Reader_number c_Reader_signs_there 31
  have c_read := Dn.of (P := l.prog) (w := w) (base := base) (ok_read F_read B RC MK c_Reader_beat c_Reader_must c_is_beat) m_read k_read b_read
  have c__law_told := Dn.of0 (P := l.prog) (w := w) (base := base) (ok__law_told16 F__law_told B KC KA_NoNote c_read) m__law_told k__law_told b__law_told
  have c__law_changed := Dn.of0 (P := l.prog) (w := w) (base := base) (ok__law_changed F__law_changed B c__law_next) m__law_changed k__law_changed b__law_changed
  exact ok_law F_law B c__law_mix c__law_next c__law_beat c__law_text c__law_changed c__law_told c__law_due c__law_alike
end TD
open PySem PySem.W PyProof.Rows
set_option maxRecDepth 100000 in
set_option maxHeartbeats 0 in
theorem PySem.Challenge.cw_tickdivide_k16_texts_that_write_no_beat_holds : PySem.Challenge.rw_tickdivide_k16_texts_that_write_no_beat.Holds := by
  w_on; o_law; k_head; (case hw => w_witness2)
  k_fill
  refine L2.walk_of (l := PySem.Challenge.rw_tickdivide_k16_texts_that_write_no_beat) (n := 63) (k := 105) (x := "_law_script") (CX := fun _ => L2.CX0) (sp := fun w => TD.spLaw _) rfl (by decide) rfl ⟨rfl, by decide, by decide⟩ (fun w h Y => PySem.W.kIn_of Y) ?F (fun _ _ a ns hl _ hS => ⟨a, ns, rfl, hS, hl, fun _ => rfl⟩) (fun _ _ _ _ _ h => h)
  case F =>
    intro w mg fa h KX G hmg
    refine' TD.all_mk KX G hmg ?a__law_text ?l__law_text ?e__law_text ?k__law_text ?a__law_beat ?l__law_beat ?e__law_beat ?k__law_beat ?a__law_counted ?l__law_counted ?e__law_counted ?k__law_counted ?a__law_parsed ?l__law_parsed ?e__law_parsed ?k__law_parsed ?a__law_numbered ?l__law_numbered ?e__law_numbered ?k__law_numbered ?a__law_due ?l__law_due ?e__law_due ?k__law_due ?a__law_told ?l__law_told ?e__law_told ?k__law_told ?a__law_changed ?l__law_changed ?e__law_changed ?k__law_changed ?a_is_whole ?l_is_whole ?e_is_whole ?k_is_whole ?a_are_signs ?l_are_signs ?e_are_signs ?k_are_signs ?a_is_every ?l_is_every ?e_is_every ?k_is_every ?a_inner_of ?l_inner_of ?e_inner_of ?k_inner_of ?a_is_beat ?l_is_beat ?e_is_beat ?k_is_beat ?a__law_mix ?l__law_mix ?e__law_mix ?k__law_mix ?a__law_next ?l__law_next ?e__law_next ?k__law_next ?a__law_whole ?l__law_whole ?e__law_whole ?k__law_whole ?a__law_right ?l__law_right ?e__law_right ?k__law_right ?a__law_alike ?l__law_alike ?e__law_alike ?k__law_alike ?a_read ?l_read ?e_read ?k_read ?a_law ?l_law ?e_law ?k_law ?g_SIGNS ?q_SIGNS ?g_MOST_DIVIDED ?g_OF_TWO ?q_OF_TWO ?g_MOST_LATER ?g_MOST_LED ?g_MOST_TUPLES ?g_FIGURES ?g_LETTERS ?g_MOST_FIGURES ?xg_NoNote ?xq_NoNote ?xk_NoNote ?xs_NoNote ?xt_NoNote ?z_len ?z_range ?z_list ?z_sum ?z_zip ?z_max ?z_min ?z_sorted ?z_set ?z_dict ?z_enumerate ?z_divmod ?z_isinstance ?z_int ?z_str ?z_bool ?z_tuple ?z_VE ?y_BeatError ?y_NoBeat ?y_TooLong ?y_Ends ?y_BadStock ?y_NoWish ?e1_BE ?e2_BE ?e3_BE ?hg_NoNote ?hk_NoNote ?hs_NoNote ?hd_NoNote ?ha_NoNote ?hm_NoNote ?hb_NoNote ?i0_NoNote ?i1_NoNote ?i2_NoNote ?i3_NoNote ?i4_NoNote ?i5_NoNote ?iv_NoNote ?hn_oc ?ht_oc ?r_g ?r_pg ?r_hd ?r_po ?r_sa ?r_mk ?r_kc ?r_nT ?r_nP ?r_nM ?ra_Reader___init__ ?ri_Reader___init__ ?l_Reader___init__ ?e_Reader___init__ ?k_Reader___init__ ?ra_Reader_must ?ri_Reader_must ?l_Reader_must ?e_Reader_must ?k_Reader_must ?ra_Reader_skip ?ri_Reader_skip ?l_Reader_skip ?e_Reader_skip ?k_Reader_skip ?ra_Reader_run ?ri_Reader_run ?l_Reader_run ?e_Reader_run ?k_Reader_run ?ra_Reader_number ?ri_Reader_number ?l_Reader_number ?e_Reader_number ?k_Reader_number ?ra_Reader_inner ?ri_Reader_inner ?l_Reader_inner ?e_Reader_inner ?k_Reader_inner ?ra_Reader_signs_there ?ri_Reader_signs_there ?l_Reader_signs_there ?e_Reader_signs_there ?k_Reader_signs_there ?ra_Reader_beat ?ri_Reader_beat ?l_Reader_beat ?e_Reader_beat ?k_Reader_beat ?ra_Reader_parts ?ri_Reader_parts ?l_Reader_parts ?e_Reader_parts ?k_Reader_parts
    (case a__law_text => k_is)
    (case l__law_text => k_is)
    (case e__law_text => k_is)
    (case k__law_text => k_is)
    (case a__law_beat => k_is)
    (case l__law_beat => k_is)
    (case e__law_beat => k_is)
    (case k__law_beat => k_is)
    (case a__law_counted => k_is)
    (case l__law_counted => k_is)
    (case e__law_counted => k_is)
    (case k__law_counted => k_is)
    (case a__law_parsed => k_is)
    (case l__law_parsed => k_is)
    (case e__law_parsed => k_is)
    (case k__law_parsed => k_is)
    (case a__law_numbered => k_is)
    (case l__law_numbered => k_is)
    (case e__law_numbered => k_is)
    (case k__law_numbered => k_is)
    (case a__law_due => k_is)
    (case l__law_due => k_is)
    (case e__law_due => k_is)
    (case k__law_due => k_is)
    (case a__law_told => k_is)
    (case l__law_told => k_is)
    (case e__law_told => k_is)
    (case k__law_told => k_is)
    (case a__law_changed => k_is)
    (case l__law_changed => k_is)
    (case e__law_changed => k_is)
    (case k__law_changed => k_is)
    (case a_is_whole => k_is)
    (case l_is_whole => k_is)
    (case e_is_whole => k_is)
    (case k_is_whole => k_is)
    (case a_are_signs => k_is)
    (case l_are_signs => k_is)
    (case e_are_signs => k_is)
    (case k_are_signs => k_is)
    (case a_is_every => k_is)
    (case l_is_every => k_is)
    (case e_is_every => k_is)
    (case k_is_every => k_is)
    (case a_inner_of => k_is)
    (case l_inner_of => k_is)
    (case e_inner_of => k_is)
    (case k_inner_of => k_is)
    (case a_is_beat => k_is)
    (case l_is_beat => k_is)
    (case e_is_beat => k_is)
    (case k_is_beat => k_is)
    (case a__law_mix => k_is)
    (case l__law_mix => k_is)
    (case e__law_mix => k_is)
    (case k__law_mix => k_is)
    (case a__law_next => k_is)
    (case l__law_next => k_is)
    (case e__law_next => k_is)
    (case k__law_next => k_is)
    (case a__law_whole => k_is)
    (case l__law_whole => k_is)
    (case e__law_whole => k_is)
    (case k__law_whole => k_is)
    (case a__law_right => k_is)
    (case l__law_right => k_is)
    (case e__law_right => k_is)
    (case k__law_right => k_is)
    (case a__law_alike => k_is)
    (case l__law_alike => k_is)
    (case e__law_alike => k_is)
    (case k__law_alike => k_is)
    (case a_read => k_is)
    (case l_read => k_is)
    (case e_read => k_is)
    (case k_read => k_is)
    (case a_law => k_is)
    (case l_law => k_is)
    (case e_law => k_is)
    (case k_law => k_is)
    (case g_SIGNS => k_is)
    (case q_SIGNS => k_is)
    (case g_MOST_DIVIDED => k_is)
    (case g_OF_TWO => k_is)
    (case q_OF_TWO => k_is)
    (case g_MOST_LATER => k_is)
    (case g_MOST_LED => k_is)
    (case g_MOST_TUPLES => k_is)
    (case g_FIGURES => k_is)
    (case g_LETTERS => k_is)
    (case g_MOST_FIGURES => k_is)
    (case xg_NoNote => k_is)
    (case xq_NoNote => k_exc)
    (case xk_NoNote => k_is)
    (case xs_NoNote => k_is)
    (case xt_NoNote => k_is)
    (case z_len => k_is)
    (case z_range => k_is)
    (case z_list => k_is)
    (case z_sum => k_is)
    (case z_zip => k_is)
    (case z_max => k_is)
    (case z_min => k_is)
    (case z_sorted => k_is)
    (case z_set => k_is)
    (case z_dict => k_is)
    (case z_enumerate => k_is)
    (case z_divmod => k_is)
    (case z_isinstance => k_is)
    (case z_int => k_is)
    (case z_str => k_is)
    (case z_bool => k_is)
    (case z_tuple => k_is)
    (case z_VE => k_is)
    (case y_BeatError => k_is)
    (case y_NoBeat => k_is)
    (case y_TooLong => k_is)
    (case y_Ends => k_is)
    (case y_BadStock => k_is)
    (case y_NoWish => k_is)
    (case e1_BE => k_is)
    (case e2_BE => k_is)
    (case e3_BE => k_is)
    (case hg_NoNote => k_is)
    (case hk_NoNote => k_is)
    (case hs_NoNote => k_is)
    (case hd_NoNote => k_is)
    (case ha_NoNote => k_is)
    (case hm_NoNote => k_is)
    (case hb_NoNote => k_is)
    (case i0_NoNote => kernel_rfl)
    (case i1_NoNote => kernel_rfl)
    (case i2_NoNote => kernel_rfl)
    (case i3_NoNote => kernel_rfl)
    (case i4_NoNote => kernel_rfl)
    (case i5_NoNote => kernel_rfl)
    (case iv_NoNote => kernel_rfl)
    (case hn_oc => k_is)
    (case ht_oc => k_is)
    (case r_g => k_is)
    (case r_pg => k_is)
    (case r_hd => k_is)
    (case r_po => k_is)
    (case r_sa => k_is)
    (case r_mk => k_is)
    (case r_kc => k_is)
    (case r_nT => k_is)
    (case r_nP => k_is)
    (case r_nM => k_is)
    (case ra_Reader___init__ => k_is)
    (case ri_Reader___init__ => k_is)
    (case l_Reader___init__ => k_is)
    (case e_Reader___init__ => k_is)
    (case k_Reader___init__ => k_is)
    (case ra_Reader_must => k_is)
    (case ri_Reader_must => k_is)
    (case l_Reader_must => k_is)
    (case e_Reader_must => k_is)
    (case k_Reader_must => k_is)
    (case ra_Reader_skip => k_is)
    (case ri_Reader_skip => k_is)
    (case l_Reader_skip => k_is)
    (case e_Reader_skip => k_is)
    (case k_Reader_skip => k_is)
    (case ra_Reader_run => k_is)
    (case ri_Reader_run => k_is)
    (case l_Reader_run => k_is)
    (case e_Reader_run => k_is)
    (case k_Reader_run => k_is)
    (case ra_Reader_number => k_is)
    (case ri_Reader_number => k_is)
    (case l_Reader_number => k_is)
    (case e_Reader_number => k_is)
    (case k_Reader_number => k_is)
    (case ra_Reader_inner => k_is)
    (case ri_Reader_inner => k_is)
    (case l_Reader_inner => k_is)
    (case e_Reader_inner => k_is)
    (case k_Reader_inner => k_is)
    (case ra_Reader_signs_there => k_is)
    (case ri_Reader_signs_there => k_is)
    (case l_Reader_signs_there => k_is)
    (case e_Reader_signs_there => k_is)
    (case k_Reader_signs_there => k_is)
    (case ra_Reader_beat => k_is)
    (case ri_Reader_beat => k_is)
    (case l_Reader_beat => k_is)
    (case e_Reader_beat => k_is)
    (case k_Reader_beat => k_is)
    (case ra_Reader_parts => k_is)
    (case ri_Reader_parts => k_is)
    (case l_Reader_parts => k_is)
    (case e_Reader_parts => k_is)
    (case k_Reader_parts => k_is)
