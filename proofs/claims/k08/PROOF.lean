import PyProof.Rows.All
import Wide.All
import OpenK.AllK
import Wide.FinOn
import HandS.ForMost
import HandS.ForExc
import HandS.Evl
import HandS.SortInts
import HandS.IsInst
import HandS.Deep
import HandS.Text
import HandS.Conv
import HandS.SortRule
import HandS.More
import HandS.TupLe
import KE.KDictSum
import HandS.Lambda
import HandS.EndOwn
import HandS.Exc
import HandS.ExcIs
import KE.KDflt
import HandS.SetFor
import PyProof.Rows.CountFlat
import HandS.ExcInit
import HandS.ExcField
import HandS.ExcOwn
import PySem.Challenge.RW_tickdivide_k08_whole_fewest_with_papers
set_option Elab.async false
set_option linter.all false
set_option maxRecDepth 100000
set_option maxHeartbeats 5000000
/-! What an object is told to be may be told otherwise ahead of a call and behind it: the drawing list is told by what stays true of it. -/
namespace TD
open PySem PySem.Spec PyProof.Rows L2

/-- the same heap, told otherwise -/
inductive Swaps (P : Program) (w : World) (hp : Heap) : Hp → Hp → Prop where
  | refl (H : Hp) : Swaps P w hp H H
  | step {H H2 : Hp} {x : Addr} {o : HO} : Mut (H x) → ObjOk P w (upd H x o) hp x o → Swaps P w hp (upd H x o) H2 → Swaps P w hp H H2

theorem Swaps.none {P : Program} {w : World} {hp : Heap} {H H2 : Hp} (z : Swaps P w hp H H2) : ∀ b, H b = Option.none → H2 b = Option.none := by
  induction z with
  | refl H => exact fun _ h => h
  | step mu _ _ ih =>
    intro b hb
    refine ih b ?_
    rw [upd_ne (fun e => by subst e; rw [hb] at mu; exact mu)]
    exact hb
theorem Swaps.hok {P : Program} {w : World} {hp : Heap} {H H2 : Hp} (z : Swaps P w hp H H2) : HOk P w H hp → HOk P w H2 hp := by
  induction z with
  | refl H => exact fun h => h
  | step mu new _ ih =>
    intro ok
    exact ih (ok.write mu (.inl rfl) (fun _ _ _ e => e) (objOk_get new) new)
theorem Swaps.un {P : Program} {w : World} {hp : Heap} {fs : List Addr} {H H2 : Hp} (z : Swaps P w hp H H2) : Un fs [] H H2 hp hp := by
  induction z with
  | refl H => exact Un.refl
  | step mu new _ ih => exact (Un.write mu (.inl rfl) (fun _ _ _ e => e) (objOk_get new)).trans ih

section
variable {P : Program} {w : World} {K : PySem.W.Frag} {mg : Str → Option Value} {base : Heap} {k : Nat} {f : Addr} {fd : FuncData} {ps : List Str} {sp sp' : Sp}
theorem view (F : FnOk P w K mg base CX0 k f fd ps sp) (len : ∀ vs H Q E, sp' vs H Q E → vs.length = ps.length)
    (conv : ∀ vs H Q E hp, sp' vs H Q E → HOk P w H hp → ∃ H1 Q1, Swaps P w hp H H1 ∧ sp vs H1 Q1 E ∧ ∀ v H1' hp', HOk P w H1' hp' → Q1 v H1' → ∃ H', Swaps P w hp' H1' H' ∧ Q v H') :
    FnOk P w K mg base CX0 k f fd ps sp' := by
  refine ⟨len, fun A outer s H args us vs Q E hr e0 hb hv hs => ?_⟩
  obtain ⟨H1, Q1, z, h1, back⟩ := conv vs H Q E s.heap hs e0.hok
  have e1 : Env0 P w K mg base A outer s H1 := ⟨e0.frames, e0.mod, fun b o e => ⟨(e0.bs b o e).1, z.none b (e0.bs b o e).2⟩, e0.bsz, e0.funs, fun b hb => z.none b (e0.frf b hb), z.hok e0.hok, e0.bare⟩
  refine codeAny_mono (F.run A outer s H1 args us vs Q1 E hr e1 hb hv h1) fun r s' hq => ?_
  cases r with
  | error e => exact hq
  | ok fl =>
    cases fl with
    | ret u =>
      obtain ⟨v, H1', os, bare, un, hok, rv, q⟩ := hq
      obtain ⟨H', z', q'⟩ := back v H1' s'.heap hok q
      exact ⟨v, H', os, bare, (z.un.trans un).trans z'.un, z'.hok hok, rv, q'⟩
    | next => exact hq
    | brk => exact hq
    | cont => exact hq
/-- no exception leaves: so what leaves is what is wanted -/
theorem up (F : FnOk P w K mg base CX0 k f fd ps sp) : FnOk P w K mg base (L2.CX P w) k f fd ps sp :=
  ⟨F.len, fun A outer s H args us vs Q E hr e0 hb hv hs => codeAny_mono (F.run A outer s H args us vs Q E hr e0 hb hv hs) fun r s' hq => by
    cases r with
    | error e => exact False.elim hq
    | ok fl =>
      cases fl with
      | ret u => exact hq
      | next => exact hq
      | brk => exact hq
      | cont => exact hq⟩
end

/-! ### the drawing list: a number, the cells, a place -/
def phiH (h l : Addr) : Heap → Prop := fun hp => ∃ (m p : Int) (t u : Tok) (n : Nat), hp.get? h = some { cls := .type "list", data := .seq #[.int m t, .ref l, .int p u] n }
def phiL (l : Addr) : Heap → Prop := fun hp => ∃ (cs : List Int) (its : List Value) (n : Nat), cs.length ≤ 63 ∧ Vals (cs.map V.int) its ∧ hp.get? l = some { cls := .type "list", data := .seq its.toArray n }
def Rng (H : Hp) (h : Addr) : Prop := ∃ l, h ≠ l ∧ H h = some (.ext (phiH h l)) ∧ H l = some (.ext (phiL l))
theorem Rng.ext {H H' : Hp} {h : Addr} (r : Rng H h) (e : ∀ a o, H a = some o → H' a = some o) : Rng H' h := by
  obtain ⟨l, n, h1, h2⟩ := r
  exact ⟨l, n, e _ _ h1, e _ _ h2⟩
/-- the three things -/
def h3 (m : Int) (l : Addr) (p : Int) : HO := .lst [.int m, .ref l, .int p]
def hL (cs : List Int) : HO := .lst (cs.map V.int)
theorem upd_comm {H : Hp} {a b : Addr} {o u : HO} (h : a ≠ b) : upd (upd H a o) b u = upd (upd H b u) a o := by
  funext c
  unfold upd
  by_cases h1 : c = a
  · subst h1
    rw [if_neg h]
    simp
  · by_cases h2 : c = b
    · subst h2
      simp [h1]
    · simp [h1, h2]
theorem upd_at {H : Hp} {a : Addr} {o : HO} (h : H a = some o) : upd H a o = H := by
  funext b
  unfold upd
  by_cases e : b = a
  · subst e
    rw [if_pos rfl, h]
  · rw [if_neg e]
theorem okL {P : Program} {w : World} {H : Hp} {hp : Heap} {l : Addr} {cs : List Int} (hl : cs.length ≤ 63) (h : ObjOk P w H hp l (hL cs)) : phiL l hp := by
  obtain ⟨_, its, n, r, e⟩ := h
  exact ⟨cs, its, n, hl, r, e⟩
theorem okH {P : Program} {w : World} {H : Hp} {hp : Heap} {h l : Addr} {m p : Int} (x : ObjOk P w H hp h (h3 m l p)) : phiH h l hp := by
  obtain ⟨_, its, n, r, e⟩ := x
  cases r with
  | cons r1 r =>
    cases r with
    | cons r2 r =>
      cases r with
      | cons r3 r =>
        cases r
        obtain ⟨t, rfl⟩ := r1
        obtain ⟨u, rfl⟩ := r3
        cases r2
        exact ⟨m, p, t, u, n, e⟩
theorem extH {P : Program} {w : World} {H : Hp} {hp : Heap} {h l : Addr} (x : phiH h l hp) : ObjOk P w H hp h (.ext (phiH h l)) := by
  refine ⟨x, ?_, fun h1 h2 q k => ?_⟩
  · obtain ⟨_, _, _, _, _, e⟩ := x
    exact ⟨_, e⟩
  · obtain ⟨m, p, t, u, n, e⟩ := q
    exact ⟨m, p, t, u, n, k _ e⟩
theorem extL {P : Program} {w : World} {H : Hp} {hp : Heap} {l : Addr} (x : phiL l hp) : ObjOk P w H hp l (.ext (phiL l)) := by
  refine ⟨x, ?_, fun h1 h2 q k => ?_⟩
  · obtain ⟨_, _, _, _, _, e⟩ := x
    exact ⟨_, e⟩
  · obtain ⟨cs, its, n, a, r, e⟩ := q
    exact ⟨cs, its, n, a, r, k _ e⟩

section
variable {P : Program} {w : World} {K : PySem.W.Frag} {mg : Str → Option Value} {base : Heap} {k : Nat} {f : Addr} {fd : FuncData}
/-- the next draw, told by the lists themselves -/
def spNext0 : Sp := fun vs H Q _ => ∃ (h l : Addr) (m p many : Int) (cs : List Int), vs = [.ref h, .int many] ∧ h ≠ l ∧ H h = some (h3 m l p) ∧ H l = some (hL cs) ∧ cs.length ≤ 63 ∧ 0 < many ∧ many < 1073741824 ∧
  ∀ (r m' p' : Int) (cs' : List Int) (H' : Hp), 0 ≤ r → r < many → cs'.length ≤ 63 → (∀ b o, H b = some o → b ≠ h → b ≠ l → H' b = some o) → H' h = some (h3 m' l p') → H' l = some (hL cs') → Q (.int r) H'
/-- the next draw: a number below; nothing that is told changes -/
def spNext : Sp := fun vs H Q _ => ∃ (h : Addr) (many : Int), vs = [.ref h, .int many] ∧ Rng H h ∧ 0 < many ∧ many < 1073741824 ∧ ∀ r H', 0 ≤ r → r < many → (∀ b o, H b = some o → H' b = some o) → Q (.int r) H'
theorem next_view (F : FnOk P w K mg base CX0 k f fd ["_law_h", "_law_many"] spNext0) : FnOk P w K mg base CX0 k f fd ["_law_h", "_law_many"] spNext := by
  refine view F (fun vs H Q E h => by obtain ⟨h, many, rfl, _⟩ := h; rfl) fun vs H Q E hp hs ok => ?_
  obtain ⟨h, many, rfl, ⟨l, hne, e1, e2⟩, p1, p2, q⟩ := hs
  obtain ⟨⟨m, p, t, u, n, g1⟩, _⟩ := ok h _ e1
  obtain ⟨⟨cs, its, n2, hc, rc, g2⟩, _⟩ := ok l _ e2
  refine ⟨upd (upd H h (h3 m l p)) l (hL cs), fun v H' => ∃ (r m' p' : Int) (cs' : List Int), v = .int r ∧ 0 ≤ r ∧ r < many ∧ cs'.length ≤ 63 ∧ (∀ b o, H b = some o → b ≠ h → b ≠ l → H' b = some o) ∧ H' h = some (h3 m' l p') ∧ H' l = some (hL cs'), ?_, ?_, ?_⟩
  · refine .step (x := h) (o := h3 m l p) (by rw [e1]; trivial) ⟨by show 3 ≤ sizeLine; decide, [.int m t, .ref l, .int p u], n, .cons ⟨t, rfl⟩ (.cons rfl (.cons ⟨u, rfl⟩ .nil)), g1⟩ ?_
    refine .step (x := l) (o := hL cs) (by rw [upd_ne (Ne.symm hne), e2]; trivial) ⟨by rw [List.length_map]; exact Nat.le_trans hc (by decide), its, n2, rc, g2⟩ (.refl _)
  · refine ⟨h, l, m, p, many, cs, rfl, hne, by rw [upd_ne hne, upd_same], upd_same, hc, p1, p2, fun r m' p' cs' H' r1 r2 hc' st q1 q2 => ⟨r, m', p', cs', rfl, r1, r2, hc', fun b o hb n1 n2 => st b o (by rw [upd_ne n2, upd_ne n1]; exact hb) n1 n2, q1, q2⟩⟩
  · rintro v H1' hp' ok' ⟨r, m', p', cs', rfl, r1, r2, hc', st, f1, f2⟩
    have a1 := okH (ok' h (h3 m' l p') f1)
    have a2 := okL hc' (ok' l (hL cs') f2)
    refine ⟨upd (upd H1' h (.ext (phiH h l))) l (.ext (phiL l)), ?_, q r _ r1 r2 fun b o hb => ?_⟩
    · refine .step (x := h) (o := .ext (phiH h l)) (by rw [f1]; trivial) (extH a1) ?_
      exact .step (x := l) (o := .ext (phiL l)) (by rw [upd_ne (Ne.symm hne), f2]; trivial) (extL a2) (.refl _)
    · by_cases h1 : b = l
      · subst h1
        rw [upd_same, ← e2]
        exact hb
      · rw [upd_ne h1]
        by_cases h2 : b = h
        · subst h2
          rw [upd_same, ← e1]
          exact hb
        · rw [upd_ne h2]
          exact st b o hb h2 h1
/-- what is drawn from, made of the script -/
def spMix0 (K : PySem.W.Frag) : Sp := fun vs H Q _ => ∃ (a : Addr) (ns : List Int) (seed : Int), vs = [.ref a, .int seed] ∧ SqL K H a (ns.map V.int) ∧ ns.length ≤ 63 ∧
  ∀ (h l : Addr) (m : Int) (H' : Hp), (∀ b o, H b = some o → H' b = some o) → H h = none → H l = none → h ≠ l → H' h = some (h3 m l 0) → H' l = some (hL ns) → Q (.ref h) H'
def spMix (K : PySem.W.Frag) : Sp := fun vs H Q _ => ∃ (a : Addr) (ns : List Int) (seed : Int), vs = [.ref a, .int seed] ∧ SqL K H a (ns.map V.int) ∧ ns.length ≤ 63 ∧
  ∀ (h : Addr) (H' : Hp), (∀ b o, H b = some o → H' b = some o) → Rng H' h → Q (.ref h) H'
theorem mix_view (F : FnOk P w K mg base CX0 k f fd ["_law_script", "_law_seed"] (spMix0 K)) : FnOk P w K mg base CX0 k f fd ["_law_script", "_law_seed"] (spMix K) := by
  refine view F (fun vs H Q E h => by obtain ⟨a, ns, seed, rfl, _⟩ := h; rfl) fun vs H Q E hp hs ok => ?_
  obtain ⟨a, ns, seed, rfl, hS, hl, q⟩ := hs
  refine ⟨H, fun v H' => ∃ (h l : Addr) (m : Int), v = .ref h ∧ (∀ b o, H b = some o → H' b = some o) ∧ H h = none ∧ H l = none ∧ h ≠ l ∧ H' h = some (h3 m l 0) ∧ H' l = some (hL ns), .refl _, ?_, ?_⟩
  · exact ⟨a, ns, seed, rfl, hS, hl, fun h l m H' e n1 n2 ne e1 e2 => ⟨h, l, m, rfl, e, n1, n2, ne, e1, e2⟩⟩
  · rintro v H1' hp' ok' ⟨h, l, m, rfl, e, n1, n2, hne, e1, e2⟩
    have a1 := okH (ok' h (h3 m l 0) e1)
    have a2 := okL hl (ok' l (hL ns) e2)
    refine ⟨upd (upd H1' h (.ext (phiH h l))) l (.ext (phiL l)), ?_, q h _ (fun b o hb => ?_) ⟨l, hne, ?_, upd_same⟩⟩
    · refine .step (x := h) (o := .ext (phiH h l)) (by rw [e1]; trivial) (extH a1) ?_
      exact .step (x := l) (o := .ext (phiL l)) (by rw [upd_ne (Ne.symm hne), e2]; trivial) (extL a2) (.refl _)
    · rw [upd_ne (ne_of_none hb n2), upd_ne (ne_of_none hb n1)]
      exact e b o hb
    · rw [upd_ne hne, upd_same]
end
end TD

namespace TD
open PySem PySem.Spec PyProof.Rows L2

/-! ### names of the built-in part -/
structure Blt (mg : Str → Option Value) : Prop where
  len : mg "len" = none
  range : mg "range" = none
  list : mg "list" = none
  sum : mg "sum" = none
  zip : mg "zip" = none
  max : mg "max" = none
  min : mg "min" = none
  sorted : mg "sorted" = none
  set : mg "set" = none
  dict : mg "dict" = none
  enumerate : mg "enumerate" = none
  divmod : mg "divmod" = none
  isinstance : mg "isinstance" = none
  int : mg "int" = none
  str : mg "str" = none
  bool : mg "bool" = none
  tuple : mg "tuple" = none
theorem bt_max : bootBuiltins "max" = some (.builtin "max") := by decide +kernel
theorem bt_min : bootBuiltins "min" = some (.builtin "min") := by decide +kernel
theorem bt_sum : bootBuiltins "sum" = some (.builtin "sum") := by decide +kernel
theorem bt_divmod : bootBuiltins "divmod" = some (.builtin "divmod") := by decide +kernel
theorem bt_isinstance : bootBuiltins "isinstance" = some (.builtin "isinstance") := by decide +kernel
theorem bt_sorted : bootBuiltins "sorted" = some (.builtin "sorted") := by decide +kernel
theorem bt_list : bootBuiltins "list" = some (.type "list") := by decide +kernel
theorem bt_set : bootBuiltins "set" = some (.type "set") := by decide +kernel
theorem bt_dict : bootBuiltins "dict" = some (.type "dict") := by decide +kernel
theorem bt_int : bootBuiltins "int" = some (.type "int") := by decide +kernel
theorem bt_str : bootBuiltins "str" = some (.type "str") := by decide +kernel
theorem bt_bool : bootBuiltins "bool" = some (.type "bool") := by decide +kernel
theorem bt_tuple : bootBuiltins "tuple" = some (.type "tuple") := by decide +kernel

/-! ### a def as its callers know it -/
structure Dn (P : Program) (w : World) (K : PySem.W.Frag) (mg : Str → Option Value) (base : Heap) (k : Nat) (x : Str) (sp : Sp) : Prop where
  ex : ∃ (f : Addr) (fd : FuncData) (ps : List Str), FnOk P w K mg base (L2.CX P w) k f fd ps sp ∧ mg x = some (.ref f) ∧ PySem.W.keepIn K (.ref f) = true ∧ Binds K fd ps []
theorem Dn.of0 {P : Program} {w : World} {K : PySem.W.Frag} {mg : Str → Option Value} {base : Heap} {k : Nat} {x : Str} {sp : Sp} {f : Addr} {fd : FuncData} {ps : List Str} (F : FnOk P w K mg base CX0 k f fd ps sp)
    (hm : mg x = some (.ref f)) (hk : PySem.W.keepIn K (.ref f) = true) (hb : Binds K fd ps []) : Dn P w K mg base k x sp := ⟨f, fd, ps, up F, hm, hk, hb⟩
theorem Dn.of {P : Program} {w : World} {K : PySem.W.Frag} {mg : Str → Option Value} {base : Heap} {k : Nat} {x : Str} {sp : Sp} {f : Addr} {fd : FuncData} {ps : List Str} (F : FnOk P w K mg base (L2.CX P w) k f fd ps sp)
    (hm : mg x = some (.ref f)) (hk : PySem.W.keepIn K (.ref f) = true) (hb : Binds K fd ps []) : Dn P w K mg base k x sp := ⟨f, fd, ps, F, hm, hk, hb⟩
theorem Dn.mono {P : Program} {w : World} {K : PySem.W.Frag} {mg : Str → Option Value} {base : Heap} {j k : Nat} {x : Str} {sp : Sp} (c : Dn P w K mg base j x sp) (h : j ≤ k) : Dn P w K mg base k x sp := by
  obtain ⟨f, fd, ps, F, r⟩ := c.ex
  exact ⟨f, fd, ps, F.mono h, r⟩
theorem Dn.imp {P : Program} {w : World} {K : PySem.W.Frag} {mg : Str → Option Value} {base : Heap} {k : Nat} {x : Str} {sp sp' : Sp} (c : Dn P w K mg base k x sp) (h : ∀ vs H Q E, sp' vs H Q E → sp vs H Q E) : Dn P w K mg base k x sp' := by
  obtain ⟨f, fd, ps, F, r⟩ := c.ex
  exact ⟨f, fd, ps, F.imp h, r⟩
section
variable {X : Cx} {j k : Nat} {x : Str} {sp : Sp} {E : XK} {p pos : Pos} {e : Expr} {es : List Expr} {t : TA}
theorem pe_d (c : Dn X.prog X.w X.K X.mg X.base k x sp) (hr : Room j X.A) (hk : k ≤ j) (hx : Passes (L2.CX X.prog X.w) X E) (hg : Gl X x) (ha : PA X (e :: es) t)
    (hdb : (x == ("__debug__" : Str)) = false := by decide) (he : starEach (e :: es) X.env = (false, eval e X.env) :: starEach es X.env := by rfl) (hpl : (backTo pos (starEach es X.env)).any (·.1) = false := by rfl) :
    PE X (.Call (.Name x p) (e :: es) [] pos) (tCall sp [] E t) := by
  obtain ⟨f, fd, ps, F, hm, hk', hb⟩ := c.ex
  exact pe_call F (hr.mono hk) hg hm hk' hb .nil hx ha hdb he hpl
/-- a constant of the module -/
theorem pe_gl {v : V} (hg : Gl X x) (h : ∃ u, X.mg x = some u ∧ RelV v u) (hd : (x == ("__debug__" : Str)) = false := by decide) : PE X (.Name x pos) (tC v) := by
  obtain ⟨u, hm, r⟩ := h
  exact pe_glob hg hm r hd
end

/-! ### extending heaps -/
abbrev Ex (H H' : Hp) : Prop := ∀ a o, H a = some o → H' a = some o
theorem Ex.refl (H : Hp) : Ex H H := fun _ _ h => h
theorem Ex.trans {H H1 H2 : Hp} (a : Ex H H1) (b : Ex H1 H2) : Ex H H2 := fun x o h => b x o (a x o h)
theorem Ex.new {H : Hp} {p : Addr} {o : HO} (h : H p = none) : Ex H (upd H p o) := fun a u e => by
  rw [upd_ne (ne_of_none e h)]
  exact e
theorem Ex.mut {H H' : Hp} {p : Addr} {o : HO} (e : Ex H H') (h : H p = none) : Ex H (upd H' p o) := fun a u ha => by
  rw [upd_ne (ne_of_none ha h)]
  exact e a u ha
theorem Ex.back {H H' : Hp} {p : Addr} (e : Ex H H') (h : H' p = none) : H p = none := by
  cases h1 : H p with
  | none => rfl
  | some o =>
    rw [e p o h1] at h
    cases h
theorem Ex.sqL {K : PySem.W.Frag} {H H' : Hp} {a : Addr} {xs : List V} (e : Ex H H') (h : SqL K H a xs) : SqL K H' a xs := Evl.ex_l e h
theorem Ex.sqT {K : PySem.W.Frag} {H H' : Hp} {a : Addr} {xs : List V} (e : Ex H H') (h : SqT K H a xs) : SqT K H' a xs := Evl.ex_t e h
mutual
theorem dp_ext {K : PySem.W.Frag} {H H' : Hp} (e : Ex H H') : ∀ {v : V} {d : PyData}, Dp K H v d → Dp K H' v d
  | _, _, .non => .non
  | _, _, .bl b => .bl b
  | _, _, .int i => .int i
  | _, _, .str x => .str x
  | _, _, .lst h a => .lst (e.sqL h) (dpAll_ext e a)
  | _, _, .tup h a => .tup (e.sqT h) (dpAll_ext e a)
theorem dpAll_ext {K : PySem.W.Frag} {H H' : Hp} (e : Ex H H') : ∀ {vs : List V} {ds : List PyData}, DpAll K H vs ds → DpAll K H' vs ds
  | _, _, .nil => .nil
  | _, _, .cons h a => .cons (dp_ext e h) (dpAll_ext e a)
end
theorem Ex.dp {K : PySem.W.Frag} {H H' : Hp} {v : V} {d : PyData} (e : Ex H H') (h : Dp K H v d) : Dp K H' v d := dp_ext e h
theorem Ex.dpAll {K : PySem.W.Frag} {H H' : Hp} {vs : List V} {ds : List PyData} (e : Ex H H') (h : DpAll K H vs ds) : DpAll K H' vs ds := dpAll_ext e h
/-- a list of ints, tracked -/
abbrev LI (H : Hp) (a : Addr) (ns : List Int) : Prop := H a = some (.lst (ns.map V.int))
theorem dpAll_ints {K : PySem.W.Frag} {H : Hp} : ∀ ns : List Int, DpAll K H (ns.map V.int) (ns.map PyData.int)
  | [] => .nil
  | n :: r => .cons (.int n) (dpAll_ints r)
theorem LI.dp {K : PySem.W.Frag} {H : Hp} {a : Addr} {ns : List Int} (h : LI H a ns) : Dp K H (.ref a) (.list (ns.map PyData.int)) := .lst (SqL.of h) (dpAll_ints ns)

theorem sq_upd {K : PySem.W.Frag} {H : Hp} {a : Addr} {xs : List V} : SqL K (upd H a (.lst xs)) a xs := SqL.of upd_same
theorem st_upd {K : PySem.W.Frag} {H : Hp} {a : Addr} {xs : List V} : SqT K (upd H a (.tup xs)) a xs := SqT.of upd_same
theorem upd_lst {H : Hp} {a : Addr} {xs : List V} : upd H a (.lst xs) a = some (.lst xs) := upd_same
theorem iteNSF {c A B : Prop} [Decidable c] (hc : ¬ c) (h : A) : if (!decide c) = true then A else B := by
  rw [decide_eq_false hc]
  exact h
/-! ### lists of ints compared -/
theorem lay_ints : ∀ ns : List Int, PyData.canLayAll0 (ns.map PyData.int) = true
  | [] => by simp [PyData.canLayAll0]
  | n :: r => by simp [PyData.canLayAll0, PyData.canLay0, lay_ints r]
theorem depth_ints : ∀ ns : List Int, PyData.depthAll (ns.map PyData.int) = 0
  | [] => by simp [PyData.depthAll]
  | n :: r => by simp [PyData.depthAll, PyData.depth, depth_ints r]
theorem shaped_ints (ns : List Int) : SeqAt.shaped (.list (ns.map PyData.int)) = true := by
  unfold SeqAt.shaped
  rw [Bool.and_eq_true]
  refine ⟨?_, ?_⟩
  · rw [PyData.canLay0]
    exact lay_ints ns
  · rw [PyData.depth, depth_ints]
    decide
theorem eqvAll_ints : ∀ xs ys : List Int, PyData.eqvAll (xs.map PyData.int) (ys.map PyData.int) = decide (xs = ys)
  | [], [] => by simp [PyData.eqvAll]
  | [], _ :: _ => by simp [PyData.eqvAll]
  | _ :: _, [] => by simp [PyData.eqvAll]
  | x :: xs, y :: ys => by
    simp only [List.map_cons, PyData.eqvAll, PyData.eqv, eqvAll_ints xs ys, List.cons.injEq]
    by_cases h : x = y <;> simp [h]
theorem eqv_ints (xs ys : List Int) : PyData.eqv (.list (xs.map PyData.int)) (.list (ys.map PyData.int)) = decide (xs = ys) := by
  rw [PyData.eqv, eqvAll_ints]
theorem dpAll_sqL {K : PySem.W.Frag} {H : Hp} {a : Addr} {ns : List Int} (h : SqL K H a (ns.map V.int)) : Dp K H (.ref a) (.list (ns.map PyData.int)) := .lst h (dpAll_ints ns)
def rEqLI (K : PySem.W.Frag) : R2 := fun x y H Q => ∃ (a b : Addr) (xs ys : List Int), x = .ref a ∧ y = .ref b ∧ SqL K H a (xs.map V.int) ∧ SqL K H b (ys.map V.int) ∧ Q (.bl (decide (xs = ys))) H
def rNeLI (K : PySem.W.Frag) : R2 := fun x y H Q => ∃ (a b : Addr) (xs ys : List Int), x = .ref a ∧ y = .ref b ∧ SqL K H a (xs.map V.int) ∧ SqL K H b (ys.map V.int) ∧ Q (.bl (!decide (xs = ys))) H
section
variable {X : Cx}
theorem op_eqLI (hu : X.A.units + 64 < cLine) : OpR X (compareOp .Eq) (rEqLI X.K) := fun pins s σ H x y v u Q I rx ry ⟨a, b, xs, ys, ex, ey, h1, h2, q⟩ =>
  op_eqD hu pins s σ H x y v u Q I rx ry ⟨_, _, by rw [ex]; exact dpAll_sqL h1, by rw [ey]; exact dpAll_sqL h2, shaped_ints xs, shaped_ints ys, by rw [eqv_ints]; exact q⟩
theorem op_neLI (hu : X.A.units + 64 < cLine) : OpR X (compareOp .NotEq) (rNeLI X.K) := fun pins s σ H x y v u Q I rx ry ⟨a, b, xs, ys, ex, ey, h1, h2, q⟩ =>
  op_neD hu pins s σ H x y v u Q I rx ry ⟨_, _, by rw [ex]; exact dpAll_sqL h1, by rw [ey]; exact dpAll_sqL h2, shaped_ints xs, shaped_ints ys, by rw [eqv_ints]; exact q⟩
end
/-- an empty list just laid -/
theorem sq_nil {K : PySem.W.Frag} {H : Hp} {n : Addr} : SqL K (upd H n (.lst [])) n (([] : List Int).map V.int) := SqL.of upd_same
end TD

/-! What the program's defs compute, in plain Lean. -/
namespace TD

def gcdZ (x y : Int) : Int := ((Int.gcd x y : Nat) : Int)
theorem gcdZ_mod {a b : Int} (ha : 0 ≤ a) (hb : 0 ≤ b) : gcdZ b (a % b) = gcdZ a b := by
  obtain ⟨n, rfl⟩ := Int.eq_ofNat_of_zero_le ha
  obtain ⟨m, rfl⟩ := Int.eq_ofNat_of_zero_le hb
  show ((Nat.gcd m (n % m) : Nat) : Int) = (Nat.gcd n m : Nat)
  rw [Nat.gcd_comm m, ← Nat.gcd_rec, Nat.gcd_comm]
def lcmZ (x y : Int) : Int := x / gcdZ x y * y

structure Form where
  front : List Int
  round : List Int
  len : Int
  deriving DecidableEq

/-- the gaps of a round -/
def gapsRound (ticks : List Int) (len : Int) : List Int := List.zipWith (fun soon late => late - soon) ticks (ticks.tail ++ [ticks.headD 0 + len])
/-- a part of the gaps that comes again and again -/
def partOk (gaps : List Int) (m : Nat) : Bool := decide (gaps.length % m = 0) && decide (gaps = (List.replicate (gaps.length / m) (gaps.take m)).flatten)
def leastFrom (gaps : List Int) : Nat → Nat → Nat
  | 0, m => m
  | n + 1, m => if partOk gaps m then m else leastFrom gaps n (m + 1)
def least (gaps : List Int) : Nat := leastFrom gaps gaps.length 1
/-- the front's last moments that are of the round; the front from its end -/
def rollBack (len : Int) : List Int → List Int → List Int × List Int
  | [], t => ([], t)
  | x :: r, t => if x + len = t.getLastD 0 then rollBack len r (x :: t.dropLast) else ((x :: r).reverse, t)
def settled (front ticks : List Int) (len : Int) : Form :=
  if ticks = [] then ⟨front, [], 0⟩ else
    let g := gapsRound ticks len
    let m := least g
    let l := (g.take m).sum
    let r := rollBack l front.reverse (ticks.take m)
    ⟨r.1, r.2, l⟩

def tickAt (f : Form) (n : Int) : Option Int :=
  if n < f.front.length then f.front[n.toNat]? else
  if f.round = [] then none else
    let i := n - f.front.length
    some (f.round.getD (i % f.round.length).toNat 0 + i / f.round.length * f.len)
def tickZ (f : Form) (n : Int) : Int := (tickAt f n).getD 0
def countBelow (l : List Int) (m : Int) : Int := (((l.filter fun x => decide (x < m)).length : Nat) : Int)
def countAhead (f : Form) (m : Int) : Int :=
  if f.round = [] ∨ m ≤ f.round.headD 0 then countBelow f.front m else
    countBelow f.front m + (m - f.round.headD 0) / f.len * f.round.length + (((f.round.filter fun x => decide (x - f.round.headD 0 < (m - f.round.headD 0) % f.len)).length : Nat) : Int)
def rangeZ (lo : Int) (n : Nat) : List Int := (List.range n).map fun (i : Nat) => lo + (i : Int)
def allAhead (f : Form) (m : Int) : List Int := (rangeZ 0 (countAhead f m).toNat).map (tickZ f)
def startOf (f : Form) : Int := if f.round ≠ [] then f.round.headD 0 else if f.front ≠ [] then f.front.getLastD 0 + 1 else 0

def bitAt (bits : List Bool) (n : Int) : Bool := bits.getD (n % bits.length).toNat false
def keptFrom (bits : List Bool) : Nat → List Int → List Int
  | _, [] => []
  | i, x :: r => if bitAt bits i then x :: keptFrom bits (i + 1) r else keptFrom bits (i + 1) r
def gated (f : Form) (bits : List Bool) : Option Form :=
  let kept := keptFrom bits 0 f.front
  if f.round = [] then some ⟨kept, [], 0⟩ else
    let many := lcmZ f.round.length bits.length
    let wide := f.len * (many / f.round.length)
    if wide > 5040 then none else
      some (settled kept (((rangeZ f.front.length many.toNat).filter (bitAt bits)).map (tickZ f)) wide)
def laterF (f : Form) (d : Int) : Form := ⟨f.front.map (· + d), f.round.map (· + d), f.len⟩

inductive Two where
  | either | both | but
  deriving DecidableEq
/-- a rising list put in order with another one, nothing twice -/
def insUp (x : Int) : List Int → List Int
  | [] => [x]
  | y :: r => if x < y then x :: y :: r else if x = y then y :: r else y :: insUp x r
def sortUp (l : List Int) : List Int := l.foldr insUp []
def joined (w : Two) (mine theirs : List Int) : List Int :=
  match w with
  | .either => sortUp (mine ++ theirs)
  | .both => mine.filter fun x => decide (x ∈ theirs)
  | .but => mine.filter fun x => !decide (x ∈ theirs)
def ofTwo (w : Two) (f g : Form) : Option Form :=
  let length := lcmZ (max 1 f.len) (max 1 g.len)
  if length > 5040 then none else
    let begin := max (startOf f) (startOf g)
    let found := joined w (allAhead f (begin + length)) (allAhead g (begin + length))
    let ahead := found.filter fun x => decide (x < begin)
    some (settled ahead (found.drop ahead.length) length)

/-- the first ticks, so many of them as there are, from a number on -/
def firstTicks (f : Form) : Nat → Nat → List Int
  | 0, _ => []
  | n + 1, i => match tickAt f i with
    | none => []
    | some x => x :: firstTicks f n (i + 1)
def ledForm (f : Form) (many : Nat) (g : Form) (first : Nat) : Form :=
  let mine := firstTicks f many 0
  let at_ : Int := if mine ≠ [] then max (first : Int) (countAhead g (mine.getLastD 0 + 1)) else first
  if g.round = [] then ⟨mine ++ g.front.drop at_.toNat, [], 0⟩ else
    let begin : Int := max at_ g.front.length
    settled (mine ++ g.front.drop at_.toNat) ((rangeZ begin g.round.length).map (tickZ g)) g.len

inductive Beat where
  | source
  | every (n k : Nat) (b : Beat)
  | gate (bits : List Bool) (b : Beat)
  | later (m : Nat) (b : Beat)
  | two (w : Two) (a b : Beat)
  | led (a : Beat) (many : Nat) (b : Beat) (first : Nat)

/-- what need_short is asked of a form -/
def lateOf (f : Form) : Int := (f.round.take 1 ++ (f.front.drop (f.front.length - 1)) ++ [0]).headD 0
def checked (f : Form) : Option Form := if lateOf f > 5040 then none else some f
def everyBits (n k : Nat) : List Bool := List.replicate k false ++ true :: List.replicate (n - 1 - k) false
def fm : Beat → Option Form
  | .source => checked ⟨[], [0], 1⟩
  | .every n k b => (fm b).bind fun f => (gated f (everyBits n k)).bind checked
  | .gate bits b => (fm b).bind fun f => (gated f bits).bind checked
  | .later m b => (fm b).bind fun f => checked (laterF f m)
  | .two w a b => (fm a).bind fun f => (fm b).bind fun g => (ofTwo w f g).bind checked
  | .led a many b first => (fm a).bind fun f => (fm b).bind fun g => checked (ledForm f many g first)

/-- how many tuples -/
def Beat.size : Beat → Nat
  | .source => 1
  | .every _ _ b | .gate _ b | .later _ b => b.size + 1
  | .two _ a b => a.size + b.size + 1
  | .led a _ b _ => a.size + b.size + 1
/-- its numbers and signs are right -/
def Beat.ok : Beat → Prop
  | .source => True
  | .every n k b => 1 ≤ n ∧ n ≤ 12 ∧ k < n ∧ b.ok
  | .gate bits b => 1 ≤ bits.length ∧ bits.length ≤ 12 ∧ b.ok
  | .later m b => m ≤ 99 ∧ b.ok
  | .two _ a b => a.ok ∧ b.ok
  | .led a many b first => many ≤ 9999 ∧ first ≤ 9999 ∧ a.ok ∧ b.ok
end TD
namespace TD
def evenBits (p q : Nat) : List Bool := (List.range q).map fun place => (List.range p).any fun k => k * q / p == place
end TD

namespace TD
open PySem PySem.Spec PyProof.Rows L2

/-- an exception's class over ValueError -/
structure ExC (K : PySem.W.Frag) (mg : Str → Option Value) (x : Str) (C : Addr) : Prop where
  gC : mg x = some (.ref C)
  q : PySem.W.excIn K C [.type "ValueError", .type "Exception", .type "BaseException", .type "object"] "ValueError.__new__" = true
  kC : PySem.W.keepIn K (.ref C) = true
  sB : PySem.W.subIn K (.ref C) (.type "BaseException") = some true
  tC : PySem.W.typeIn K (.ref C) = some (.type "type")

/-- a form stands at p: a tuple of two lists and a number -/
structure FormP (H : Hp) (v : V) (f : Form) (p a b : Addr) : Prop where
  v : v = .ref p
  t : H p = some (.tup [.ref a, .ref b, .int f.len])
  a : LI H a f.front
  b : LI H b f.round
def FormAt (H : Hp) (v : V) (f : Form) : Prop := ∃ p a b, FormP H v f p a b
theorem FormP.ext {H H' : Hp} {v : V} {f : Form} {p a b : Addr} (h : FormP H v f p a b) (e : Ex H H') : FormP H' v f p a b := ⟨h.v, e _ _ h.t, e _ _ h.a, e _ _ h.b⟩
theorem FormAt.ext {H H' : Hp} {v : V} {f : Form} (h : FormAt H v f) (e : Ex H H') : FormAt H' v f := let ⟨p, a, b, q⟩ := h; ⟨p, a, b, q.ext e⟩
/-- .. its lists new -/
def FormNew (H H' : Hp) (v : V) (f : Form) : Prop := ∃ p a b, FormP H' v f p a b ∧ H p = none ∧ H a = none ∧ H b = none ∧ a ≠ b
theorem FormNew.at {H H' : Hp} {v : V} {f : Form} (h : FormNew H H' v f) : FormAt H' v f := let ⟨p, a, b, q, _⟩ := h; ⟨p, a, b, q⟩
theorem FormNew.from {H0 H H' : Hp} {v : V} {f : Form} (h : FormNew H H' v f) (e : Ex H0 H) : FormNew H0 H' v f := let ⟨p, a, b, q, h1, h2, h3, h4⟩ := h; ⟨p, a, b, q, e.back h1, e.back h2, e.back h3, h4⟩
/-- a form is laid: its tuple last -/
theorem FormNew.lay {H H1 : Hp} {f : Form} {p a b : Addr} (e : Ex H H1) (hp : H1 p = none) (ha : LI H1 a f.front) (hb : LI H1 b f.round) (na : H a = none) (nb : H b = none) (h : a ≠ b) :
    FormNew H (upd H1 p (.tup [.ref a, .ref b, .int f.len])) (.ref p) f :=
  ⟨p, a, b, ⟨rfl, upd_same, Ex.new hp _ _ ha, Ex.new hp _ _ hb⟩, e.back hp, na, nb, h⟩
/-- .. in three steps -/
theorem FormNew.mk3 {H H1 H2 H3 : Hp} {f : Form} {a b p : Addr} (e0 : Ex H H1) (na : H a = none) (nb : H b = none) (np : H2 p = none) (h : a ≠ b) (e2 : Ex H1 H2) (e3 : Ex H2 H3) (ha : LI H2 a f.front) (hb : LI H2 b f.round)
    (hp : H3 p = some (.tup [.ref a, .ref b, .int f.len])) : FormNew H H3 (.ref p) f :=
  ⟨p, a, b, ⟨rfl, hp, e3 _ _ ha, e3 _ _ hb⟩, (e0.trans e2).back np, na, nb, h⟩
def optV : Option Int → V
  | none => .non
  | some n => .int n
end TD

/-! Readings in which a new object is told by «the heap grows, and it stands there». -/
namespace TD
open PySem PySem.Spec PyProof.Rows L2

theorem PE.imp {X : Cx} {e : Expr} {t t' : TE} (h : PE X e t) (i : ∀ σ H Q, t' σ H Q → t σ H Q) : PE X e t' := ⟨fun pins s σ H Q I q => h.run pins s σ H Q I (i σ H Q q)⟩
/-- a new list, a new tuple, a heap that has grown -/
def nL (H : Hp) (xs : List V) (Q : VK) : Prop := ∀ p H2, H p = none → Ex H H2 → H2 p = some (.lst xs) → Q (.ref p) H2
def nT (H : Hp) (xs : List V) (Q : VK) : Prop := ∀ p H2, H p = none → Ex H H2 → H2 p = some (.tup xs) → Q (.ref p) H2
def nE (H : Hp) (Q : Hp → Prop) : Prop := ∀ H2, Ex H H2 → Q H2
theorem nL.get {H : Hp} {xs : List V} {Q : VK} (h : nL H xs Q) : ∀ p, H p = none → Q (.ref p) (upd H p (.lst xs)) := fun p np => h p _ np (Ex.new np) upd_same
theorem nT.get {H : Hp} {xs : List V} {Q : VK} (h : nT H xs Q) : ∀ p, H p = none → Q (.ref p) (upd H p (.tup xs)) := fun p np => h p _ np (Ex.new np) upd_same
theorem nL_intro {H : Hp} {xs : List V} {Q : VK} (h : ∀ p H2, H p = none → Ex H H2 → H2 p = some (.lst xs) → Q (.ref p) H2) : nL H xs Q := h
theorem nT_intro {H : Hp} {xs : List V} {Q : VK} (h : ∀ p H2, H p = none → Ex H H2 → H2 p = some (.tup xs) → Q (.ref p) H2) : nT H xs Q := h
theorem nE_intro {H : Hp} {Q : Hp → Prop} (h : ∀ H2, Ex H H2 → Q H2) : nE H Q := h

section
variable {X : Cx} {a b : Expr} {ta tb : TE} {es : List Expr} {t : TA} {pos p1 p2 : Pos}
def tTupN (t : TA) : TE := fun σ H Q => t σ H fun xs H1 => xs.length ≤ sizeLine ∧ nT H1 xs Q
def tLstN (t : TA) : TE := fun σ H Q => t σ H fun xs H1 => xs.length ≤ sizeLine ∧ nL H1 xs Q
end
section
variable {X : Cx}
/-- readings may be weakened where the continuation is -/
structure MonoA (t : TA) : Prop where
  mono : ∀ σ H Q Q', (∀ xs H', Q xs H' → Q' xs H') → t σ H Q → t σ H Q'
end
section
variable {X : Cx} {es : List Expr} {t : TA} {pos : Pos}
theorem pe_tupN {x1} (h : PA X es t) : PE X (.Tuple es x1 pos) (tTupN t) := by
  refine ⟨fun pins s σ H Q I hq => ?_⟩
  refine wpAny_Tuple_spliced (thn (h.run pos pins s σ H _ I hq) fun us s1 ⟨xs, H1, I1, r, z, q⟩ => ⟨by rw [← r.length]; exact z, ?_⟩)
  have hf : H1 s1.heap.objs.size = none := I1.hok.fresh (Nat.le_refl _)
  refine ⟨.ref s1.heap.objs.size, upd H1 s1.heap.objs.size (.tup xs), I1.laid (t' := s1.toks) (fun b u e => Heap.get?_push_of_some _ e) (Nat.le_refl _) ?_, rfl, q.get _ hf⟩
  exact ⟨z, us, r, ⟨_, Heap.get?_push_size _ rfl, rfl, _, rfl⟩⟩
theorem pe_lstN (h : PA X es t) : PE X (.List es pos) (tLstN t) := by
  refine ⟨fun pins s σ H Q I hq => ?_⟩
  refine wpAny_List_spliced (thn (h.run pos pins s σ H _ I hq) fun us s1 ⟨xs, H1, I1, r, z, q⟩ => ⟨by rw [← r.length]; exact z, ?_⟩)
  have hf : H1 s1.heap.objs.size = none := I1.hok.fresh (Nat.le_refl _)
  refine ⟨.ref s1.heap.objs.size, upd H1 s1.heap.objs.size (.lst xs), I1.laid (t' := s1.toks) (fun b u e => Heap.get?_push_of_some _ e) (Nat.le_refl _) ?_, rfl, q.get _ hf⟩
  exact ⟨z, us, 0, r, Heap.get?_push_size _ rfl⟩
end

/-! ### operations by values -/
def rSlLN (K : PySem.W.Frag) : V → Option Int → Option Int → Hp → VK → Prop := fun x lo hi H Q => ∃ a xs, x = .ref a ∧ SqL K H a xs ∧ nL H (cutV xs lo hi) Q
def rCatN : R2 := fun x y H Q => ∃ l b xs zs, x = .ref l ∧ y = .ref b ∧ H l = some (.lst xs) ∧ H b = some (.lst zs) ∧ xs.length + zs.length ≤ sizeLine ∧ nL H (xs ++ zs) Q
def rRepN : R2 := fun x y H Q => ∃ l k xs, x = .ref l ∧ y = .int k ∧ H l = some (.lst xs) ∧ -(2 ^ 63) ≤ k ∧ k < 2 ^ 63 ∧ xs.length * k.toNat ≤ sizeLine ∧ nL H (List.replicate k.toNat xs).flatten Q
def rListN (K : PySem.W.Frag) : List V → Hp → VK → Prop := fun xs H Q => ∃ p ys, xs = [.ref p] ∧ (SqL K H p ys ∨ SqT K H p ys) ∧ nL H ys Q
def rDivmodN : List V → Hp → VK → Prop := fun xs H Q => ∃ i j, xs = [.int i, .int j] ∧ CDiv i j ∧ nT H [.int (i / j), .int (i % j)] Q
section
variable {X : Cx}
theorem sl_listN : SlR X (rSlLN X.K) := fun pins s σ H x v vl vu lo hi sl Q I rx hs pl pu ⟨a, xs, e, h, q⟩ => sl_list pins s σ H x v vl vu lo hi sl Q I rx hs pl pu ⟨a, xs, e, h, q.get⟩
theorem op_catN : OpR X (binaryOp .Add) rCatN := fun pins s σ H x y v u Q I rx ry ⟨l, b, xs, zs, e1, e2, h1, h2, hz, q⟩ => op_cat pins s σ H x y v u Q I rx ry ⟨l, b, xs, zs, e1, e2, h1, h2, hz, q.get⟩
theorem op_repN : OpR X (binaryOp .Mult) rRepN := fun pins s σ H x y v u Q I rx ry ⟨l, k, xs, e1, e2, h1, h2, h3, h4, q⟩ => op_rep pins s σ H x y v u Q I rx ry ⟨l, k, xs, e1, e2, h1, h2, h3, h4, q.get⟩
theorem call_listN : CallR X (.type "list") (rListN X.K) := fun pins s σ H xs us Q I r ⟨p, ys, e, h, q⟩ => call_list_of pins s σ H xs us Q I r ⟨p, ys, e, h, q.get⟩
theorem call_divmodN : CallR X (.builtin "divmod") rDivmodN := fun pins s σ H xs us Q I r ⟨i, j, e, c, q⟩ => call_divmod pins s σ H xs us Q I r ⟨i, j, e, c, q.get⟩
end

/-! ### a list of ints against the empty one -/
def tNilI (K : PySem.W.Frag) (ta : TE) : TE := fun σ H Q => ta σ H fun x H1 => ∃ (a : Addr) (xs : List Int), x = .ref a ∧ SqL K H1 a (xs.map V.int) ∧ nE H1 fun H2 => Q (.bl (decide (xs = []))) H2
def tConsI (K : PySem.W.Frag) (ta : TE) : TE := fun σ H Q => ta σ H fun x H1 => ∃ (a : Addr) (xs : List Int), x = .ref a ∧ SqL K H1 a (xs.map V.int) ∧ nE H1 fun H2 => Q (.bl (!decide (xs = []))) H2
section
variable {X : Cx} {a : Expr} {ta : TE} {p1 pos : Pos}
theorem pc_eqNil (hu : X.A.units + 64 < cLine) (ha : PE X a ta) : PC X .Eq a (.List [] p1) (tNilI X.K ta) := by
  refine ⟨fun pins s σ H Q I h => thn (ha.run pins s σ H _ I h) fun v s1 ⟨x, H1, I1, r1, l, xs, ex, hs, q⟩ => ?_⟩
  refine thn ((pe_lst pa_nil).run pins s1 σ H1 (fun y H2 => ∃ n, y = .ref n ∧ H1 n = none ∧ H2 = upd H1 n (.lst [])) I1 ⟨Nat.zero_le _, fun n nn => ⟨n, rfl, nn, rfl⟩⟩) fun u s2 ⟨y, H2, I2, r2, n, ey, nn, eH⟩ => ?_
  subst ex ey eH
  exact op_eqLI hu pins s2 σ _ _ _ _ _ Q I2 r1 r2 ⟨l, n, xs, [], rfl, rfl, (Ex.new nn).sqL hs, sq_nil, q _ (Ex.new nn)⟩
theorem pc_neNil (hu : X.A.units + 64 < cLine) (ha : PE X a ta) : PC X .NotEq a (.List [] p1) (tConsI X.K ta) := by
  refine ⟨fun pins s σ H Q I h => thn (ha.run pins s σ H _ I h) fun v s1 ⟨x, H1, I1, r1, l, xs, ex, hs, q⟩ => ?_⟩
  refine thn ((pe_lst pa_nil).run pins s1 σ H1 (fun y H2 => ∃ n, y = .ref n ∧ H1 n = none ∧ H2 = upd H1 n (.lst [])) I1 ⟨Nat.zero_le _, fun n nn => ⟨n, rfl, nn, rfl⟩⟩) fun u s2 ⟨y, H2, I2, r2, n, ey, nn, eH⟩ => ?_
  subst ex ey eH
  exact op_neLI hu pins s2 σ _ _ _ _ _ Q I2 r1 r2 ⟨l, n, xs, [], rfl, rfl, (Ex.new nn).sqL hs, sq_nil, q _ (Ex.new nn)⟩
end

/-! ### the rules with the written part told by its name -/
section
variable {X : Cx} {K : PySem.W.Frag}
theorem ixl (h : X.K = K) : IxR X (rIxL K) := by subst h; exact ix_list
theorem ixt (h : X.K = K) : IxR X (rIxT K) := by subst h; exact ix_tup
def rLenK (K : PySem.W.Frag) : List V → Hp → VK → Prop := fun xs H Q => ∃ p ys, xs = [.ref p] ∧ (SqL K H p ys ∨ SqT K H p ys) ∧ Q (.int ys.length) H
theorem lenK (h : X.K = K) : CallR X (.builtin "len") (rLenK K) := by subst h; exact call_len_seq
theorem slK (h : X.K = K) : SlR X (rSlLN K) := by subst h; exact sl_listN
theorem eqLI (h : X.K = K) (hu : X.A.units + 64 < cLine) : OpR X (compareOp .Eq) (rEqLI K) := by subst h; exact op_eqLI hu
theorem neLI (h : X.K = K) (hu : X.A.units + 64 < cLine) : OpR X (compareOp .NotEq) (rNeLI K) := by subst h; exact op_neLI hu
theorem eqD (h : X.K = K) (hu : X.A.units + 64 < cLine) : OpR X (compareOp .Eq) (rEqD K) := by subst h; exact op_eqD hu
theorem neD (h : X.K = K) (hu : X.A.units + 64 < cLine) : OpR X (compareOp .NotEq) (rNeD K) := by subst h; exact op_neD hu
theorem inK (h : X.K = K) : OpR X (compareOp .In) (rIn K false) := by subst h; exact op_in_seq
theorem niK (h : X.K = K) : OpR X (compareOp .NotIn) (rIn K true) := by subst h; exact op_notIn_seq
theorem listK (h : X.K = K) : CallR X (.type "list") (rListN K) := by subst h; exact call_listN
theorem sumK (h : X.K = K) (hc : X.calm = true) : CallR X (.builtin "sum") (rSum K) := by subst h; exact cr_sum hc
theorem maxK (h : X.K = K) (hc : X.calm = true) : CallR X (.builtin "max") (rMax K) := by subst h; exact cr_max hc
theorem minK (h : X.K = K) (hc : X.calm = true) : CallR X (.builtin "min") (rMin K) := by subst h; exact cr_min hc
def rSortN (K : PySem.W.Frag) : List V → Hp → VK → Prop := fun vs H Q => ∃ (a : Addr) (ns : List Int), vs = [V.ref a] ∧ SqL K H a (ns.map V.int) ∧ ∀ ns' : List Int, ns'.Perm ns → ns'.Pairwise (· ≤ ·) → nL H (ns'.map V.int) Q
theorem sortK (h : X.K = K) : CallR X (.builtin "sorted") (rSortN K) := by
  subst h
  exact fun pins s σ H xs us Q I r ⟨a, ns, e, hs, q⟩ => cr_sortedI pins s σ H xs us Q I r ⟨a, ns, e, hs, fun ns' p hp hw np => (q ns' hp hw).get p np⟩
theorem isiK (h : X.K = K) : CallR X (.builtin "isinstance") (rIsi K) := by subst h; exact call_isi
theorem isiTK (h : X.K = K) : CallR X (.builtin "isinstance") (rIsiT K) := by subst h; exact call_isiT
variable {a : Expr} {ta : TE} {p1 pos : Pos}
theorem eqNil (h : X.K = K) (hu : X.A.units + 64 < cLine) (ha : PE X a ta) : PC X .Eq a (.List [] p1) (tNilI K ta) := by subst h; exact pc_eqNil hu ha
theorem neNil (h : X.K = K) (hu : X.A.units + 64 < cLine) (ha : PE X a ta) : PC X .NotEq a (.List [] p1) (tConsI K ta) := by subst h; exact pc_neNil hu ha
end
/-! ### slices of lists -/
theorem sIx_neg1 (n d : Nat) : HT.sIx n d (some (-1)) = n - 1 := by
  have e : HT.sIx n d (some (-1)) = if (-1 : Int) < 0 then ((-1 : Int) + (n : Int)).toNat else min (-1 : Int).toNat n := rfl
  rw [e, if_pos (by decide)]
  omega
theorem cut_from {xs : List V} {n : Nat} : cutV xs (some (n : Int)) none = xs.drop n := by
  unfold cutV
  rw [HT.sIx_nat, HT.sIx_none]
  by_cases h : n ≤ xs.length
  · rw [Nat.min_eq_left h]
    exact List.take_of_length_le (by rw [List.length_drop]; omega)
  · rw [Nat.min_eq_right (by omega), List.drop_of_length_le (Nat.le_refl _), List.drop_of_length_le (by omega)]
    exact List.take_nil
theorem cut_to {xs : List V} {n : Nat} : cutV xs none (some (n : Int)) = xs.take n := by
  unfold cutV
  rw [HT.sIx_nat, HT.sIx_none, List.drop_zero, Nat.sub_zero]
  by_cases h : n ≤ xs.length
  · rw [Nat.min_eq_left h]
  · rw [Nat.min_eq_right (by omega), List.take_length, List.take_of_length_le (by omega)]
theorem cut_but {xs : List V} : cutV xs none (some (-1)) = xs.dropLast := by
  unfold cutV
  rw [HT.sIx_none, List.drop_zero, Nat.sub_zero, List.dropLast_eq_take]
  rw [sIx_neg1]
theorem cut_end {xs : List V} : cutV xs (some (-1)) none = xs.drop (xs.length - 1) := by
  unfold cutV
  rw [HT.sIx_none, sIx_neg1]
  exact List.take_of_length_le (by rw [List.length_drop]; omega)
/-! ### places of lists of ints -/
theorem atI_getI {ns : List Int} {i : Int} (h0 : 0 ≤ i) (h : i < (ns.length : Int)) : atI (ns.map V.int) i = some (.int (ns.getD i.toNat 0)) := by
  obtain ⟨n, rfl⟩ := Int.eq_ofNat_of_zero_le h0
  refine atI_nat ?_
  have h' : n < ns.length := by omega
  rw [List.getElem?_map, List.getElem?_eq_getElem h']
  simp [List.getD, h']
theorem atI_headI {ns : List Int} (h : ns ≠ []) : atI (ns.map V.int) 0 = some (.int (ns.headD 0)) := by
  cases ns with
  | nil => exact absurd rfl h
  | cons n r => exact atI_nat (j := 0) rfl
theorem atI_lastI {ns : List Int} (h : ns ≠ []) : atI (ns.map V.int) (-1) = some (.int (ns.getLastD 0)) := by
  have e : ns = ns.dropLast ++ [ns.getLast h] := (List.dropLast_concat_getLast h).symm
  have e2 : ns.getLastD 0 = ns.getLast h := by rw [List.getLastD_eq_getLast?, List.getLast?_eq_some_getLast h]; rfl
  rw [e2]
  have e3 : ns.map V.int = ns.dropLast.map V.int ++ [.int (ns.getLast h)] := by
    rw [← List.map_singleton, ← List.map_append, List.dropLast_concat_getLast]
  rw [e3]
  exact atI_last _ _
theorem getMapI {ns : List Int} {i : Nat} {y : V} (h : (ns.map V.int)[i]? = some y) : ∃ n, ns[i]? = some n ∧ y = .int n := by
  rw [List.getElem?_map] at h
  obtain ⟨n, h1, h2⟩ := Option.map_eq_some_iff.mp h
  exact ⟨n, h1, h2.symm⟩
theorem not_bnot {c : Prop} [Decidable c] (h : ¬ (!decide c) = true) : c := by
  by_cases hc : c
  · exact hc
  · rw [decide_eq_false hc] at h
    exact absurd rfl h
theorem of_bnot {c : Prop} [Decidable c] (h : (!decide c) = true) : ¬ c := fun hc => by
  rw [decide_eq_true hc] at h
  cases h
theorem not_dec {c : Prop} [Decidable c] (h : ¬ decide c = true) : ¬ c := fun hc => h (decide_eq_true hc)

/-! ### comprehensions whose turns give what is known -/
/-- n turns of J over what grows from H1; Y i x: what the i-th yields -/
structure Goes (J : It) (H1 : Hp) (n : Nat) (Y : Nat → V → Hp → Prop) : Prop where
  go : ∀ i H', i < n → Ex H1 H' → J.go i H'
  yld : ∀ i H' x H'', i < n → Ex H1 H' → J.yld i H' x H'' → Ex H' H'' ∧ Y i x H''
  stop : ∀ H', Ex H1 H' → J.stop n H'
theorem Goes.list {K : PySem.W.Frag} {H1 : Hp} {a : Addr} {xs : List V} (h : SqL K H1 a xs) : Goes (Itl K a) H1 xs.length fun i x _ => xs[i]? = some x where
  go := fun i H' hi e => ⟨xs, xs[i], e.sqL h, List.getElem?_eq_getElem hi⟩
  yld := fun i H' x H'' hi e ⟨eq, hx⟩ => by
    subst eq
    exact ⟨Ex.refl _, hx xs (e.sqL h)⟩
  stop := fun H' e => ⟨xs, e.sqL h, Nat.le_refl _⟩
theorem Goes.range {H1 : Hp} {lo : Int} {n : Nat} : Goes (Itr lo n) H1 n fun i x _ => x = .int (lo + (i : Int)) where
  go := fun i H' hi e => hi
  yld := fun i H' x H'' hi e ⟨eq, hx⟩ => by
    subst eq
    exact ⟨Ex.refl _, hx⟩
  stop := fun H' e => Nat.le_refl _
theorem Goes.enum {K : PySem.W.Frag} {H1 : Hp} {a : Addr} {xs : List V} (h : SqL K H1 a xs) : Goes (Ite K a) H1 xs.length fun i x H'' => ∃ T y, x = .ref T ∧ xs[i]? = some y ∧ H'' T = some (.tup [.int (i : Int), y]) where
  go := fun i H' hi e => ⟨xs, xs[i], e.sqL h, List.getElem?_eq_getElem hi⟩
  yld := fun i H' x H'' hi e ⟨T, y, ex, nT, eH, hx⟩ => by
    subst eH
    exact ⟨Ex.new nT, T, y, ex, hx xs (e.sqL h), upd_same⟩
  stop := fun H' e => ⟨xs, e.sqL h, Nat.le_refl _⟩
theorem Goes.zip {K : PySem.W.Frag} {H1 : Hp} {a b : Addr} {xs ys : List V} (h : SqL K H1 a xs) (h' : SqL K H1 b ys) (hl : xs.length = ys.length) : Goes (Itz K a b) H1 xs.length fun i x H'' => ∃ T y z, x = .ref T ∧ xs[i]? = some y ∧ ys[i]? = some z ∧ H'' T = some (.tup [y, z]) where
  go := fun i H' hi e => ⟨xs, ys, xs[i], ys[i], e.sqL h, e.sqL h', List.getElem?_eq_getElem hi, List.getElem?_eq_getElem (by omega)⟩
  yld := fun i H' x H'' hi e ⟨T, y, z, ex, nT, eH, hx, hy⟩ => by
    subst eH
    exact ⟨Ex.new nT, T, y, z, ex, hx xs (e.sqL h), hy ys (e.sqL h'), upd_same⟩
  stop := fun H' e => ⟨xs, ys, e.sqL h, e.sqL h', .inl (Nat.le_refl _)⟩
theorem Goes.str {H1 : Hp} {x : Str} : Goes (Its x) H1 x.cps.size fun i v _ => ∃ c, x.cps[i]? = some c ∧ v = .str ⟨#[c]⟩ where
  go := fun i H' hi e => hi
  yld := fun i H' v H'' hi e ⟨eq, hx⟩ => by
    subst eq
    exact ⟨Ex.refl _, hx⟩
  stop := fun H' e => Nat.le_refl _

/-- what the first n turns give -/
def outs (out : Nat → Option V) (n : Nat) : List V := (List.range n).filterMap out
theorem outs_succ (out : Nat → Option V) (n : Nat) : outs out (n + 1) = outs out n ++ (out n).toList := by
  unfold outs
  rw [List.range_succ, List.filterMap_append]
  cases h : out n <;> simp [h]
theorem outs_len (out : Nat → Option V) (n : Nat) : (outs out n).length ≤ n := by
  unfold outs
  have := List.length_filterMap_le out (List.range n)
  rw [List.length_range] at this
  exact this
theorem outs_eq {out : Nat → Option V} {l : List V} (h : ∀ i, i < l.length → out i = l[i]?) : outs out l.length = l := by
  have : ∀ n, n ≤ l.length → outs out n = l.take n := by
    intro n
    induction n with
    | zero => intro _; rfl
    | succ n ih =>
      intro hn
      rw [outs_succ, ih (by omega), h n (by omega), List.take_add_one]
  rw [this _ (Nat.le_refl _), List.take_length]
theorem outs_len_eq {out : Nat → Option V} {l : List V} {n : Nat} (hn : n = l.length) (h : ∀ i, i < l.length → out i = l[i]?) : outs out n = l := by
  rw [hn]
  exact outs_eq h
/-- what is filtered out of a list, each item turned -/
theorem outs_filter {α : Type} {out : Nat → Option V} {l : List α} {p : α → Bool} {f : α → V} (h : ∀ i x, l[i]? = some x → out i = if p x then some (f x) else none) : outs out l.length = (l.filter p).map f := by
  have : ∀ n, n ≤ l.length → outs out n = ((l.take n).filter p).map f := by
    intro n
    induction n with
    | zero => intro _; rfl
    | succ n ih =>
      intro hn
      have hx : l[n]? = some l[n] := List.getElem?_eq_getElem (by omega)
      rw [outs_succ, ih (by omega), h n _ hx, List.take_add_one, hx, List.filter_append, List.map_append]
      cases hp : p l[n] <;> simp [hp]
  rw [this _ (Nat.le_refl _), List.take_length]
/-- the comprehension's loop -/
theorem lc_out {J : It} {H1 : Hp} {n : Nat} {Y : Nat → V → Hp → Prop} {σ : L2.St} {vs : List Nat} {g : TG} {tt : TT} {te : TE} {Q : Addr → Hp → Prop} (out : Nat → Option V) (hw : Goes J H1 n Y) (hn : n ≤ 1000000)
    (turn : ∀ i x H', i < n → Ex H1 H' → Y i x H' → ∀ R : Option V → Hp → Prop, (∀ o H4, out i = o → Ex H' H4 → R o H4) → g x (wipe σ vs) H' fun σ2 H2 => wipe σ2 vs = wipe σ vs ∧ tt σ2 H2 fun b H3 => if b = true then te σ2 H3 fun y H4 => R (some y) H4 else R none H3)
    (q : ∀ p H2, H1 p = none → Ex H1 H2 → H2 p = some (.lst (outs out n)) → Q p H2) : ∀ D, H1 D = none → ∃ W : Nat → Nat → Hp → Prop, (∃ m, W 0 m (upd H1 D (.lst []))) ∧ ∀ i m H, W i m H →
      (J.stop i H ∧ Q D H) ∨ (J.go i H ∧ ∃ Nx : Hp → Prop, (∀ H', Nx H' → ∃ m', m' < m ∧ W (i + 1) m' H') ∧ ∀ x H', J.yld i H x H' → g x (wipe σ vs) H' fun σ2 H2 => wipe σ2 vs = wipe σ vs ∧ tt σ2 H2 fun b H3 =>
        if b = true then te σ2 H3 fun y H4 => ∃ acc, H4 D = some (.lst acc) ∧ acc.length < sizeLine ∧ Nx (upd H4 D (.lst (acc ++ [y]))) else Nx H3) := by
  intro D nD
  refine ⟨fun i m H => m = n - i ∧ i ≤ n ∧ Ex H1 H ∧ H D = some (.lst (outs out i)), ⟨n, by omega, Nat.zero_le _, Ex.new nD, upd_same⟩, ?_⟩
  rintro i m H ⟨rfl, hi, e, hD⟩
  by_cases h : i < n
  · refine .inr ⟨hw.go i H h e, fun H' => Ex H1 H' ∧ H' D = some (.lst (outs out (i + 1))), fun H' ⟨e', h'⟩ => ⟨n - (i + 1), by omega, rfl, h, e', h'⟩, fun x H' hy => ?_⟩
    obtain ⟨e1, y1⟩ := hw.yld i H x H' h e hy
    refine turn i x H' h (e.trans e1) y1 (fun o H4 => match o with | some y => ∃ acc, H4 D = some (.lst acc) ∧ acc.length < sizeLine ∧ Ex H1 (upd H4 D (.lst (acc ++ [y]))) ∧ (upd H4 D (.lst (acc ++ [y]))) D = some (.lst (outs out (i + 1))) | none => Ex H1 H4 ∧ H4 D = some (.lst (outs out (i + 1)))) fun o H4 ho e4 => ?_
    have e5 : Ex H1 H4 := (e.trans e1).trans e4
    have hD4 := (e1.trans e4) D _ hD
    cases o with
    | some y =>
      refine ⟨_, hD4, Nat.lt_of_le_of_lt (outs_len out i) (Nat.lt_of_lt_of_le h (Nat.le_trans hn (by decide))), Ex.mut e5 nD, ?_⟩
      rw [upd_same, outs_succ, ho]
      rfl
    | none =>
      refine ⟨e5, ?_⟩
      rw [outs_succ, ho]
      show H4 D = some (.lst (outs out i ++ []))
      rw [List.append_nil]
      exact hD4
  · have hin : i = n := by omega
    subst hin
    exact .inl ⟨hw.stop H e, q D H nD e hD⟩
/-- .. where nothing is tested -/
theorem lc_all {J : It} {H1 : Hp} {n : Nat} {Y : Nat → V → Hp → Prop} {σ : L2.St} {vs : List Nat} {g : TG} {te : TE} {Q : Addr → Hp → Prop} (l : List V) (hl : l.length = n) (hw : Goes J H1 n Y) (hn : n ≤ 1000000)
    (turn : ∀ i x H', i < n → Ex H1 H' → Y i x H' → ∀ R : V → Hp → Prop, (∀ y H4, l[i]? = some y → Ex H' H4 → R y H4) → g x (wipe σ vs) H' fun σ2 H2 => wipe σ2 vs = wipe σ vs ∧ te σ2 H2 R)
    (q : ∀ p H2, H1 p = none → Ex H1 H2 → H2 p = some (.lst l) → Q p H2) : ∀ D, H1 D = none → ∃ W : Nat → Nat → Hp → Prop, (∃ m, W 0 m (upd H1 D (.lst []))) ∧ ∀ i m H, W i m H →
      (J.stop i H ∧ Q D H) ∨ (J.go i H ∧ ∃ Nx : Hp → Prop, (∀ H', Nx H' → ∃ m', m' < m ∧ W (i + 1) m' H') ∧ ∀ x H', J.yld i H x H' → g x (wipe σ vs) H' fun σ2 H2 => wipe σ2 vs = wipe σ vs ∧ tYes σ2 H2 fun b H3 =>
        if b = true then te σ2 H3 fun y H4 => ∃ acc, H4 D = some (.lst acc) ∧ acc.length < sizeLine ∧ Nx (upd H4 D (.lst (acc ++ [y]))) else Nx H3) := by
  refine lc_out (fun i => l[i]?) hw hn (fun i x H' hi e hy R hR => ?_) (by rw [outs_len_eq hl.symm fun i _ => rfl]; exact q)
  exact turn i x H' hi e hy (fun y H4 => R (some y) H4) fun y H4 h e4 => hR _ _ h e4

/-! ### signs -/
def bitC (b : Bool) : Nat := if b then 49 else 48
def bitsStr (bits : List Bool) : Str := ⟨(bits.map bitC).toArray⟩
theorem bitsStr_len (bits : List Bool) : (bitsStr bits).length = bits.length := by simp [bitsStr, Str.length]
theorem bits_at {bits : List Bool} {i : Int} (h0 : 0 ≤ i) (h : i < (bits.length : Int)) : atI (bitsStr bits).cps.toList i = some (bitC (bits.getD i.toNat false)) := by
  obtain ⟨n, rfl⟩ := Int.eq_ofNat_of_zero_le h0
  refine atI_nat ?_
  have h' : n < bits.length := by omega
  show (bits.map bitC).toArray.toList[n]? = _
  simp [List.getD, h']
theorem bit_one (b : Bool) : decide (V.str ⟨#[bitC b]⟩ = V.str (Str.ofString "1")) = b := by
  cases b <;> decide +kernel
end TD

/-! Data of any kind: isinstance, the empty list, places. -/
namespace TD
open PySem PySem.Spec PyProof.Rows L2
def kindOf : PyData → String
  | .none => "NoneType"
  | .bool _ => "bool"
  | .int _ => "int"
  | .str _ => "str"
  | .list _ => "list"
  | .tuple _ => "tuple"
  | .dict _ => "dict"
def isA (n : String) (d : PyData) : Bool := kindOf d == n || (n == "int" && kindOf d == "bool")
theorem isA_tab : (∀ i, isA "int" (.int i) = true) ∧ (∀ i, isA "int" (.bool i) = true) ∧ isA "int" .none = false ∧ (∀ i, isA "int" (.str i) = false) ∧ (∀ i, isA "int" (.list i) = false) ∧ (∀ i, isA "int" (.tuple i) = false) ∧
    (∀ i, isA "bool" (.int i) = false) ∧ (∀ i, isA "bool" (.bool i) = true) ∧ isA "bool" .none = false ∧ (∀ i, isA "bool" (.str i) = false) ∧ (∀ i, isA "bool" (.list i) = false) ∧ (∀ i, isA "bool" (.tuple i) = false) ∧
    (∀ i, isA "str" (.int i) = false) ∧ (∀ i, isA "str" (.bool i) = false) ∧ isA "str" .none = false ∧ (∀ i, isA "str" (.str i) = true) ∧ (∀ i, isA "str" (.list i) = false) ∧ (∀ i, isA "str" (.tuple i) = false) ∧
    (∀ i, isA "list" (.int i) = false) ∧ (∀ i, isA "list" (.bool i) = false) ∧ isA "list" .none = false ∧ (∀ i, isA "list" (.str i) = false) ∧ (∀ i, isA "list" (.list i) = true) ∧ (∀ i, isA "list" (.tuple i) = false) ∧
    (∀ i, isA "tuple" (.int i) = false) ∧ (∀ i, isA "tuple" (.bool i) = false) ∧ isA "tuple" .none = false ∧ (∀ i, isA "tuple" (.str i) = false) ∧ (∀ i, isA "tuple" (.list i) = false) ∧ (∀ i, isA "tuple" (.tuple i) = true) := by
  simp [isA, kindOf]
theorem dp_ty {K : PySem.W.Frag} {H : Hp} {v : V} {d : PyData} (h : Dp K H v d) : TyX K H v (.type (kindOf d)) := by
  cases h with
  | non => exact .base .non
  | bl b => exact .base (.bl b)
  | int i => exact .base (.int i)
  | str x => exact .base (.str x)
  | lst h a =>
    rcases h with (h | ⟨o, h⟩) | ⟨o, its, n, e, c, _⟩
    · exact .base (.lst h)
    · exact .base (.frz h)
    · exact .kList e c
  | tup h a =>
    rcases h with (h | ⟨o, h⟩) | ⟨o, its, n, e, c, _⟩
    · exact .base (.tup h)
    · exact .fTuple h
    · exact .kTuple e c
theorem kit_all : ∀ k ∈ ["NoneType", "bool", "int", "str", "list", "tuple", "dict"], ∀ n ∈ ["int", "bool", "str", "list", "tuple"], kitB k n = some (k == n || (n == "int" && k == "bool")) := by decide +kernel
theorem kit_isA {n : String} {d : PyData} (hn : (n == "int" || n == "bool" || n == "str" || n == "list" || n == "tuple") = true) : kitB (kindOf d) n = some (isA n d) := by
  have hn : n ∈ ["int", "bool", "str", "list", "tuple"] := by simpa [or_assoc] using hn
  refine kit_all (kindOf d) ?_ n hn
  cases d <;> simp [kindOf]
def rIsiD (K : PySem.W.Frag) : List V → Hp → VK → Prop := fun xs H Q => ∃ (x : V) (n : String) (d : PyData), xs = [x, .ty n] ∧ Dp K H x d ∧ (n == "int" || n == "bool" || n == "str" || n == "list" || n == "tuple") = true ∧ Q (.bl (isA n d)) H
theorem isiD {X : Cx} {K : PySem.W.Frag} (h : X.K = K) : CallR X (.builtin "isinstance") (rIsiD K) := by
  subst h
  intro pins s σ H xs us Q I r ⟨x, n, d, e, hd, hn, q⟩
  refine call_isi pins s σ H xs us Q I r ⟨x, .ty n, .type (kindOf d), .type n, isA n d, e, .ty n, dp_ty hd, ?_, q⟩
  exact kit_ty (kit_isA hn)
/-- isinstance(x, (a, b)) -/
def rIsiD2 (K : PySem.W.Frag) : List V → Hp → VK → Prop := fun xs H Q => ∃ (x : V) (tp : Addr) (n m : String) (d : PyData), xs = [x, .ref tp] ∧ H tp = some (.tup [.ty n, .ty m]) ∧ Dp K H x d ∧ (n == "int" || n == "bool" || n == "str" || n == "list" || n == "tuple") = true ∧
  (m == "int" || m == "bool" || m == "str" || m == "list" || m == "tuple") = true ∧ Q (.bl (isA n d || isA m d)) H
theorem isiD2 {X : Cx} {K : PySem.W.Frag} (h : X.K = K) : CallR X (.builtin "isinstance") (rIsiD2 K) := by
  subst h
  intro pins s σ H xs us Q I r ⟨x, tp, n, m, d, e, ht, hd, hn, hm, q⟩
  refine call_isiT pins s σ H xs us Q I r ⟨x, tp, [.ty n, .ty m], .type (kindOf d), [.type n, .type m], isA n d || isA m d, e, ht, .cons (.ty n) (.cons (.ty m) .nil), dp_ty hd, ?_, q⟩
  refine kitAny_cons (kit_ty (kit_isA hn)) (fun h => ?_) (fun h => by rw [h]; rfl)
  rw [h, Bool.false_or]
  exact kitAny_cons (kit_ty (kit_isA hm)) (fun h => by rw [h]; exact kitAny_nil) (fun h => h)
/-! ### a list of data against the empty one -/
def tNilD (K : PySem.W.Frag) (ta : TE) : TE := fun σ H Q => ta σ H fun x H1 => ∃ (a : Addr) (ds : List PyData), x = .ref a ∧ Dp K H1 x (.list ds) ∧ SeqAt.shaped (.list ds) = true ∧ nE H1 fun H2 => Q (.bl ds.isEmpty) H2
def tConsD (K : PySem.W.Frag) (ta : TE) : TE := fun σ H Q => ta σ H fun x H1 => ∃ (a : Addr) (ds : List PyData), x = .ref a ∧ Dp K H1 x (.list ds) ∧ SeqAt.shaped (.list ds) = true ∧ nE H1 fun H2 => Q (.bl (!ds.isEmpty)) H2
theorem eqv_nil (ds : List PyData) : PyData.eqv (.list ds) (.list []) = ds.isEmpty := by
  cases ds <;> simp [PyData.eqv, PyData.eqvAll]
theorem eqv_nilT (ds : List PyData) : PyData.eqv (.tuple ds) (.tuple []) = ds.isEmpty := by
  cases ds <;> simp [PyData.eqv, PyData.eqvAll]
theorem shaped_nil : SeqAt.shaped (.list []) = true := by decide +kernel
section
variable {X : Cx} {K : PySem.W.Frag} {a : Expr} {ta : TE} {p1 pos : Pos}
theorem eqNilD (h : X.K = K) (hu : X.A.units + 64 < cLine) (ha : PE X a ta) : PC X .Eq a (.List [] p1) (tNilD K ta) := by
  subst h
  refine ⟨fun pins s σ H Q I h => thn (ha.run pins s σ H _ I h) fun v s1 ⟨x, H1, I1, r1, l, ds, ex, hd, hs, q⟩ => ?_⟩
  refine thn ((pe_lst pa_nil).run pins s1 σ H1 (fun y H2 => ∃ n, y = .ref n ∧ H1 n = none ∧ H2 = upd H1 n (.lst [])) I1 ⟨Nat.zero_le _, fun n nn => ⟨n, rfl, nn, rfl⟩⟩) fun u s2 ⟨y, H2, I2, r2, n, ey, nn, eH⟩ => ?_
  subst ex ey eH
  exact op_eqD hu pins s2 σ _ _ _ _ _ Q I2 r1 r2 ⟨_, .list [], (Ex.new nn).dp hd, .lst (SqL.of upd_same) .nil, hs, shaped_nil, by rw [eqv_nil]; exact q _ (Ex.new nn)⟩
theorem neNilD (h : X.K = K) (hu : X.A.units + 64 < cLine) (ha : PE X a ta) : PC X .NotEq a (.List [] p1) (tConsD K ta) := by
  subst h
  refine ⟨fun pins s σ H Q I h => thn (ha.run pins s σ H _ I h) fun v s1 ⟨x, H1, I1, r1, l, ds, ex, hd, hs, q⟩ => ?_⟩
  refine thn ((pe_lst pa_nil).run pins s1 σ H1 (fun y H2 => ∃ n, y = .ref n ∧ H1 n = none ∧ H2 = upd H1 n (.lst [])) I1 ⟨Nat.zero_le _, fun n nn => ⟨n, rfl, nn, rfl⟩⟩) fun u s2 ⟨y, H2, I2, r2, n, ey, nn, eH⟩ => ?_
  subst ex ey eH
  exact op_neD hu pins s2 σ _ _ _ _ _ Q I2 r1 r2 ⟨_, .list [], (Ex.new nn).dp hd, .lst (SqL.of upd_same) .nil, hs, shaped_nil, by rw [eqv_nil]; exact q _ (Ex.new nn)⟩
end
/-! ### shapes -/
theorem shaped_iff {d : PyData} : SeqAt.shaped d = true ↔ PyData.canLay0 d = true ∧ PyData.depth d ≤ 64 := by
  unfold SeqAt.shaped
  rw [Bool.and_eq_true, decide_eq_true_eq]
theorem shaped_cons {d : PyData} {ds : List PyData} (h : SeqAt.shaped (.tuple (d :: ds)) = true) : SeqAt.shaped d = true ∧ SeqAt.shaped (.tuple ds) = true := by
  rw [shaped_iff] at h ⊢
  rw [shaped_iff]
  simp only [PyData.canLay0, PyData.canLayAll0, PyData.depth, PyData.depthAll, Bool.and_eq_true] at h ⊢
  obtain ⟨⟨h1, h2⟩, h3⟩ := h
  exact ⟨⟨h1, by omega⟩, h2, by omega⟩
theorem shaped_of_mem {ds : List PyData} (h : SeqAt.shaped (.tuple ds) = true) : ∀ d ∈ ds, SeqAt.shaped d = true := by
  induction ds with
  | nil => intro d hd; cases hd
  | cons e r ih =>
    intro d hd
    have h2 := shaped_cons h
    rcases List.mem_cons.mp hd with rfl | hd
    · exact h2.1
    · exact ih h2.2 d hd
theorem canLayAll_mem : ∀ {ds : List PyData}, (∀ d ∈ ds, PyData.canLay0 d = true) → PyData.canLayAll0 ds = true
  | [], _ => by simp [PyData.canLayAll0]
  | d :: ds, h => by
    rw [PyData.canLayAll0, h d List.mem_cons_self, canLayAll_mem fun e he => h e (List.mem_cons_of_mem _ he)]
    rfl
theorem depthAll_mem {n : Nat} : ∀ {ds : List PyData}, (∀ d ∈ ds, PyData.depth d ≤ n) → PyData.depthAll ds ≤ n
  | [], _ => by simp [PyData.depthAll]
  | d :: ds, h => by
    rw [PyData.depthAll]
    have h1 := h d List.mem_cons_self
    have h2 := depthAll_mem fun e he => h e (List.mem_cons_of_mem _ he)
    omega
theorem shaped_of {ds : List PyData} (h : ∀ d ∈ ds, PyData.canLay0 d = true ∧ PyData.depth d ≤ 63) : SeqAt.shaped (.list ds) = true ∧ SeqAt.shaped (.tuple ds) = true := by
  rw [shaped_iff, shaped_iff]
  simp only [PyData.canLay0, PyData.depth]
  have h1 := canLayAll_mem fun d hd => (h d hd).1
  have h2 := depthAll_mem fun d hd => (h d hd).2
  exact ⟨⟨h1, by omega⟩, h1, by omega⟩
/-! ### places -/
theorem dpAll_len {K : PySem.W.Frag} {H : Hp} {vs : List V} {ds : List PyData} (h : DpAll K H vs ds) : vs.length = ds.length := by
  induction vs generalizing ds with
  | nil => cases h; rfl
  | cons v vs ih =>
    cases h with
    | cons a b => rw [List.length_cons, List.length_cons, ih b]
theorem dpAll_at {K : PySem.W.Frag} {H : Hp} {vs : List V} {ds : List PyData} (h : DpAll K H vs ds) : ∀ i, i < ds.length → ∃ v d, vs[i]? = some v ∧ ds[i]? = some d ∧ Dp K H v d := by
  induction vs generalizing ds with
  | nil => cases h; intro i hi; cases hi
  | cons v vs ih =>
    cases h with
    | cons a b =>
      intro i hi
      cases i with
      | zero => exact ⟨v, _, rfl, rfl, a⟩
      | succ i =>
        rw [List.length_cons] at hi
        exact ih b i (by omega)
theorem dpAll_app {K : PySem.W.Frag} {H : Hp} {vs us : List V} {ds es : List PyData} (h : DpAll K H vs ds) (g : DpAll K H us es) : DpAll K H (vs ++ us) (ds ++ es) := by
  induction vs generalizing ds with
  | nil => cases h; exact g
  | cons v vs ih =>
    cases h with
    | cons a b => exact .cons a (ih b)
theorem dpAll_snoc {K : PySem.W.Frag} {H : Hp} {vs : List V} {ds : List PyData} {d : PyData} (h : DpAll K H vs (ds ++ [d])) : ∃ us v, vs = us ++ [v] ∧ DpAll K H us ds ∧ Dp K H v d := by
  induction ds generalizing vs with
  | nil =>
    cases h with
    | cons a b =>
      cases b
      exact ⟨[], _, rfl, .nil, a⟩
  | cons e r ih =>
    cases h with
    | cons a b =>
      obtain ⟨us, v, rfl, g, x⟩ := ih b
      exact ⟨_ :: us, v, rfl, .cons a g, x⟩
/-! ### what is_beat looks at -/
def isWhole (lo hi : Int) : PyData → Bool
  | .int i => decide (lo ≤ i) && decide (i ≤ hi)
  | _ => false
def signOk (c : Nat) : Bool := c == 48 || c == 49
def areSigns : PyData → Bool
  | .str s => decide (1 ≤ s.length) && decide (s.length ≤ 12) && s.cps.toList.all signOk
  | _ => false
def intD : PyData → Int
  | .int i => i
  | _ => 0
def isWord (s : Str) (d : PyData) : Bool := PyData.eqv d (.str s)
def atD (ds : List PyData) (i : Nat) : PyData := ds.getD i .none
def isEvery (ds : List PyData) : Bool := isWhole 1 12 (atD ds 1) && isWhole 0 (intD (atD ds 1) - 1) (atD ds 2)
def flatD : PyData → Bool
  | .none | .bool _ | .int _ | .str _ => true
  | _ => false
def innerT (ds : List PyData) : Option (List PyData) :=
    if ds.isEmpty then none
    else if isWord "source" (atD ds 0) && decide (ds.length = 1) then some []
    else if isWord "every" (atD ds 0) && decide (ds.length = 4) && isEvery ds then some [atD ds 3]
    else if isWord "gate" (atD ds 0) && decide (ds.length = 3) && areSigns (atD ds 1) then some [atD ds 2]
    else if isWord "later" (atD ds 0) && decide (ds.length = 3) && isWhole 0 99 (atD ds 1) then some [atD ds 2]
    else if (isWord "either" (atD ds 0) || isWord "both" (atD ds 0) || isWord "but" (atD ds 0)) && decide (ds.length = 3) then some [atD ds 1, atD ds 2]
    else if isWord "led" (atD ds 0) && decide (ds.length = 5) && isWhole 0 9999 (atD ds 2) && isWhole 0 9999 (atD ds 4) then some [atD ds 1, atD ds 3]
    else none
def innerOf : PyData → Option (List PyData)
  | .tuple ds => innerT ds
  | _ => none
def headFlat : PyData → Bool
  | .tuple (w :: _) => flatD w
  | _ => true
theorem dpAll_atD {K : PySem.W.Frag} {H : Hp} {vs : List V} {ds : List PyData} (h : DpAll K H vs ds) (i : Nat) (hi : i < ds.length) : ∃ v, atI vs (i : Int) = some v ∧ Dp K H v (atD ds i) := by
  obtain ⟨v, d, h1, h2, h3⟩ := dpAll_at h i hi
  refine ⟨v, atI_nat h1, ?_⟩
  unfold TD.atD
  rw [List.getD_eq_getElem?_getD, h2]
  exact h3
theorem flat_of {K : PySem.W.Frag} {H : Hp} {v : V} {d : PyData} (h : Dp K H v d) (f : flatD d = true) : flatV v = true := by
  cases h <;> first | rfl | cases f
theorem eqV_str {K : PySem.W.Frag} {H : Hp} {v : V} {d : PyData} (h : Dp K H v d) (s : Str) : eqV (.str s) v = isWord s d := by
  unfold isWord
  cases h with
  | str x =>
    show (decide (s = x) : Bool) = _
    rw [PyData.eqv]
    by_cases e : s = x
    · simp [e]
    · simp [e, Ne.symm e]
  | _ => rw [PyData.eqv]; rfl
theorem inV_three {K : PySem.W.Frag} {H : Hp} {v : V} {d : PyData} (h : Dp K H v d) (a b c : Str) : inV v [.str a, .str b, .str c] = (isWord a d || isWord b d || isWord c d) := by
  unfold inV
  simp only [List.any_cons, List.any_nil, Bool.or_false, eqV_str h, Bool.or_assoc]
end TD
namespace TD
open PySem PySem.Spec PyProof.Rows L2
/-! ### a subscript of a list or a tuple -/
theorem ixlt {X : Cx} {K : PySem.W.Frag} (h : X.K = K) : IxR X (fun x y H Q => rIxL K x y H Q ∨ rIxT K x y H Q) := by subst h; exact ix_list.or ix_tup
/-! ### noughts -/
def rMulZ : R2 := fun x y H Q => ∃ n : Int, x = .str "0" ∧ y = .int n ∧ 0 ≤ n ∧ n ≤ 1000 ∧ Q (.str (bitsStr (List.replicate n.toNat false))) H
theorem zeros_fold (n : Nat) : (List.replicate n (Str.ofString "0").cps).foldl (· ++ ·) #[] = ((List.replicate n false).map bitC).toArray := by
  have h : ∀ (n : Nat) (acc : Array Nat), (List.replicate n (Str.ofString "0").cps).foldl (· ++ ·) acc = acc ++ ((List.replicate n false).map bitC).toArray := by
    intro n
    induction n with
    | zero => intro acc; simp
    | succ n ih =>
      intro acc
      rw [List.replicate_succ, List.foldl_cons, ih, show (Str.ofString "0").cps = #[48] by decide +kernel]
      apply Array.ext'
      simp [List.replicate_succ, bitC]
  rw [h n #[]]
  simp
theorem mulStr {X : Cx} : OpR X (binaryOp .Mult) rMulZ := by
  intro pins s σ H x y v u Q I rx ry ⟨n, ex, ey, h0, h1, q⟩
  subst ex ey
  obtain ⟨t, rfl⟩ := rx
  obtain ⟨t', rfl⟩ := ry
  have hl : (Str.ofString "0").length = 1 := by decide +kernel
  refine P.mul_str (by rw [decide_eq_false (show ¬ n < -(2 ^ 63 : Int) by omega), decide_eq_false (show ¬ n ≥ 2 ^ 63 by omega)]; rfl) (fun h2 _ => ?_) (fun _ _ => ?_) ?_
  · rw [hl]
    have : 1000 ≤ (2 ^ 63 - 1) / n := by
      refine Int.le_ediv_of_mul_le (by omega) ?_
      omega
    omega
  · rw [hl]
    unfold Builtin.Str.tooLong
    refine decide_eq_false ?_
    rw [sizeLine_eq]
    omega
  · by_cases h2 : n < 1
    · rw [if_pos h2]
      have : n = 0 := by omega
      subst this
      exact ⟨by decide, ⟨.str Str.empty, H, I.tok _, ⟨_, rfl⟩, q⟩⟩
    · rw [if_neg h2]
      by_cases h3 : (n == 1 || (Str.ofString "0").length == 0) = true
      · rw [if_pos h3]
        have : n = 1 := by
          rw [hl] at h3
          simpa using h3
        subst this
        refine ⟨.str (Str.ofString "0"), H, I, ⟨_, rfl⟩, ?_⟩
        have e : Str.ofString "0" = bitsStr (List.replicate (Int.toNat 1) false) := by decide +kernel
        rw [e]
        exact q
      · rw [if_neg h3]
        have e : (⟨(List.replicate n.toNat (Str.ofString "0").cps).foldl (· ++ ·) #[]⟩ : Str) = bitsStr (List.replicate n.toNat false) := by
          rw [zeros_fold]
          rfl
        rw [e]
        refine ⟨?_, ⟨.str (bitsStr (List.replicate n.toNat false)), H, I.tok _, ⟨_, rfl⟩, q⟩⟩
        rw [bitsStr_len, List.length_replicate]
        exact Nat.le_trans (show n.toNat ≤ 1000 by omega) (by decide)
end TD
namespace TD
open PySem PySem.Spec PyProof.Rows L2 TL
/-! ### signs put together -/
theorem joinL_nil : ∀ l : List (List Nat), joinL [] l = l.flatten
  | [] => rfl
  | [p] => by simp [joinL]
  | p :: q :: r => by
    rw [joinL, joinL_nil (q :: r)]
    simp
theorem join_bits (bits : List Bool) : Txt.join (Str.ofString "") (bits.map fun b => (⟨#[bitC b]⟩ : Str)) = bitsStr bits := by
  have e : tl (Txt.join (Str.ofString "") (bits.map fun b => (⟨#[bitC b]⟩ : Str))) = bits.map bitC := by
    rw [join_eq, tl_join, show tl (Str.ofString "") = [] by decide +kernel, joinL_nil]
    induction bits with
    | nil => rfl
    | cons b r ih =>
      simp only [List.map_cons, List.flatten_cons, ih]
      rfl
  generalize Txt.join (Str.ofString "") (bits.map fun b => (⟨#[bitC b]⟩ : Str)) = x at e
  obtain ⟨c⟩ := x
  unfold bitsStr
  rw [← e]
theorem strs_sum (bits : List Bool) : ((bits.map fun b => (⟨#[bitC b]⟩ : Str)).map (·.length)).sum = bits.length := by
  induction bits with
  | nil => rfl
  | cons b r ih =>
    simp only [List.map_cons, List.sum_cons, List.length_cons, ih]
    show 1 + _ = _
    omega
/-- a stock stands there: pairs -/
def StkAt (K : PySem.W.Frag) (H : Hp) (v : V) (st : List (Int × Int)) : Prop := ∃ (a : Addr) (ps : List Addr), v = .ref a ∧ SqL K H a (ps.map V.ref) ∧ ps.length = st.length ∧ ∀ (i : Nat) (p : Addr) (r : Int × Int), ps[i]? = some p → st[i]? = some r → SqT K H p [.int r.1, .int r.2]
theorem StkAt.ext {K : PySem.W.Frag} {H H' : Hp} {v : V} {st : List (Int × Int)} (h : StkAt K H v st) (e : Ex H H') : StkAt K H' v st := by
  obtain ⟨a, ps, ev, hs, hl, hr⟩ := h
  exact ⟨a, ps, ev, e.sqL hs, hl, fun i p r h1 h2 => e.sqT (hr i p r h1 h2)⟩
end TD
namespace TD
open PySem PySem.Spec PyProof.Rows L2
/-! ### beats as data -/
def Two.word : Two → Str
  | .either => "either"
  | .both => "both"
  | .but => "but"
def Beat.data : Beat → PyData
  | .source => .tuple [.str "source"]
  | .every n k b => .tuple [.str "every", .int (n : Int), .int (k : Int), b.data]
  | .gate bits b => .tuple [.str "gate", .str (bitsStr bits), b.data]
  | .later m b => .tuple [.str "later", .int (m : Int), b.data]
  | .two w a b => .tuple [.str w.word, a.data, b.data]
  | .led a many b first => .tuple [.str "led", a.data, .int (many : Int), b.data, .int (first : Int)]
def gateOf (r : Int × Int) (b : Beat) : Beat := .gate (evenBits r.1.toNat r.2.toNat) b
def gates (st : List (Int × Int)) (ns : List Int) : Beat := ns.foldl (fun b n => gateOf (st.getD n.toNat (0, 0)) b) .source
end TD
namespace TD
open PySem PySem.Spec PyProof.Rows L2
/-- a comprehension whose turns give what is only known to be some p -/
theorem lc_pick {J : It} {H1 : Hp} {n : Nat} {Y : Nat → V → Hp → Prop} {σ : L2.St} {vs : List Nat} {g : TG} {te : TE} {Q : Addr → Hp → Prop} (p : V → Prop) (hw : Goes J H1 n Y) (hn : n ≤ 1000000)
    (turn : ∀ i x H', i < n → Ex H1 H' → Y i x H' → ∀ R : V → Hp → Prop, (∀ y H4, p y → Ex H' H4 → R y H4) → g x (wipe σ vs) H' fun σ2 H2 => wipe σ2 vs = wipe σ vs ∧ te σ2 H2 R)
    (q : ∀ a H2 xs, H1 a = none → Ex H1 H2 → xs.length = n → (∀ x ∈ xs, p x) → H2 a = some (.lst xs) → Q a H2) : ∀ D, H1 D = none → ∃ W : Nat → Nat → Hp → Prop, (∃ m, W 0 m (upd H1 D (.lst []))) ∧ ∀ i m H, W i m H →
      (J.stop i H ∧ Q D H) ∨ (J.go i H ∧ ∃ Nx : Hp → Prop, (∀ H', Nx H' → ∃ m', m' < m ∧ W (i + 1) m' H') ∧ ∀ x H', J.yld i H x H' → g x (wipe σ vs) H' fun σ2 H2 => wipe σ2 vs = wipe σ vs ∧ tYes σ2 H2 fun b H3 =>
        if b = true then te σ2 H3 fun y H4 => ∃ acc, H4 D = some (.lst acc) ∧ acc.length < sizeLine ∧ Nx (upd H4 D (.lst (acc ++ [y]))) else Nx H3) := by
  intro D nD
  refine ⟨fun i m H => m = n - i ∧ i ≤ n ∧ Ex H1 H ∧ ∃ acc : List V, H D = some (.lst acc) ∧ acc.length = i ∧ ∀ x ∈ acc, p x, ⟨n, by omega, Nat.zero_le _, Ex.new nD, [], upd_same, rfl, fun x hx => (nomatch hx)⟩, ?_⟩
  rintro i m H ⟨rfl, hi, e, acc, hD, hl, hp⟩
  by_cases h : i < n
  · refine .inr ⟨hw.go i H h e, fun H' => Ex H1 H' ∧ ∃ acc : List V, H' D = some (.lst acc) ∧ acc.length = i + 1 ∧ ∀ x ∈ acc, p x, fun H' ⟨e', a', h', l', p'⟩ => ⟨n - (i + 1), by omega, rfl, h, e', a', h', l', p'⟩, fun x H' hy => ?_⟩
    obtain ⟨e1, y1⟩ := hw.yld i H x H' h e hy
    refine turn i x H' h (e.trans e1) y1 (fun y H4 => ∃ acc, H4 D = some (.lst acc) ∧ acc.length < sizeLine ∧ Ex H1 (upd H4 D (.lst (acc ++ [y]))) ∧ ∃ acc' : List V, (upd H4 D (.lst (acc ++ [y]))) D = some (.lst acc') ∧ acc'.length = i + 1 ∧ ∀ x ∈ acc', p x) fun y H4 hy e4 => ?_
    have e5 : Ex H1 H4 := (e.trans e1).trans e4
    have hD4 := (e1.trans e4) D _ hD
    refine ⟨acc, hD4, Nat.lt_of_le_of_lt (Nat.le_of_eq hl) (Nat.lt_of_lt_of_le h (Nat.le_trans hn (by decide))), Ex.mut e5 nD, acc ++ [y], upd_same, by rw [List.length_append, hl]; rfl, fun x hx => ?_⟩
    rcases List.mem_append.mp hx with hx | hx
    · exact hp x hx
    · rw [List.mem_singleton.mp hx]
      exact hy
  · have hin : i = n := by omega
    subst hin
    exact .inl ⟨hw.stop H e, q D H acc nD e hl hp hD⟩
theorem ints_of {p : Int → Prop} : ∀ {xs : List V}, (∀ x ∈ xs, ∃ r, x = .int r ∧ p r) → ∃ ns : List Int, xs = ns.map V.int ∧ ∀ r ∈ ns, p r
  | [], _ => ⟨[], rfl, fun r hr => (nomatch hr)⟩
  | x :: xs, h => by
    obtain ⟨r, rfl, hr⟩ := h x List.mem_cons_self
    obtain ⟨ns, rfl, hn⟩ := ints_of fun y hy => h y (List.mem_cons_of_mem _ hy)
    exact ⟨r :: ns, rfl, fun s hs => by
      rcases List.mem_cons.mp hs with rfl | hs
      · exact hr
      · exact hn s hs⟩
end TD

/-! Forms: what stays true of them, in plain Lean. -/
namespace TD

/-! ### lists of ints -/
theorem asc_len : ∀ {l : List Int} {lo hi : Int}, l.Pairwise (· < ·) → (∀ x ∈ l, lo ≤ x ∧ x < hi) → lo ≤ hi → (l.length : Int) ≤ hi - lo
  | [], lo, hi, _, _, h => by simp; omega
  | x :: r, lo, hi, h, hb, hlh => by
    obtain ⟨h1, h2⟩ := List.pairwise_cons.mp h
    have hx := hb x List.mem_cons_self
    have := asc_len (l := r) (lo := x + 1) (hi := hi) h2 (fun y hy => ⟨h1 y hy, (hb y (List.mem_cons_of_mem _ hy)).2⟩) (by omega)
    rw [List.length_cons]
    omega
theorem getD_eq {l : List Int} {i : Nat} (h : i < l.length) : l.getD i 0 = l[i] := by
  rw [List.getD_eq_getElem?_getD, List.getElem?_eq_getElem h]
  rfl
theorem getD_mem {l : List Int} {i : Nat} (h : i < l.length) : l.getD i 0 ∈ l := by
  rw [getD_eq h]
  exact List.getElem_mem _
theorem headD_eq {l : List Int} : l.headD 0 = l.getD 0 0 := by cases l <;> rfl
theorem lastD_eq {l : List Int} (h : l ≠ []) : l.getLastD 0 = l.getD (l.length - 1) 0 := by
  rw [List.getLastD_eq_getLast?, List.getLast?_eq_getElem?, List.getD_eq_getElem?_getD]
theorem asc_get {l : List Int} (h : l.Pairwise (· < ·)) {i j : Nat} (hij : i < j) (hj : j < l.length) : l.getD i 0 < l.getD j 0 := by
  rw [getD_eq hj, getD_eq (by omega)]
  exact List.pairwise_iff_getElem.mp h i j (by omega) hj hij

/-! ### the ticks of a round -/
def rt (t : List Int) (len : Int) (i : Nat) : Int := t.getD (i % t.length) 0 + ((i / t.length : Nat) : Int) * len
theorem gaps_len {t : List Int} {len : Int} : (gapsRound t len).length = t.length := by
  unfold gapsRound
  rw [List.length_zipWith]
  cases t <;> simp
theorem gaps_get {t : List Int} {len : Int} {r : Nat} (h : r < t.length) : (gapsRound t len).getD r 0 = (if r + 1 < t.length then t.getD (r + 1) 0 else t.headD 0 + len) - t.getD r 0 := by
  unfold gapsRound
  rw [List.getD_eq_getElem?_getD, List.getElem?_zipWith, List.getElem?_eq_getElem h]
  have e : (t.tail ++ [t.headD 0 + len])[r]? = some (if r + 1 < t.length then t.getD (r + 1) 0 else t.headD 0 + len) := by
    cases t with
    | nil => cases h
    | cons x t =>
      show (t ++ [x + len])[r]? = _
      rw [List.getElem?_append]
      by_cases hr : r < t.length
      · rw [if_pos hr, if_pos (by rw [List.length_cons]; omega), List.getElem?_eq_getElem hr]
        show _ = some ((x :: t).getD (r + 1) 0)
        rw [getD_eq (by rw [List.length_cons]; omega)]
        rfl
      · have : r = t.length := by rw [List.length_cons] at h; omega
        rw [if_neg hr, if_neg (by rw [List.length_cons]; omega), this, Nat.sub_self]
        rfl
  rw [e, getD_eq h]
  rfl
theorem rt_lt {t : List Int} {len : Int} {i : Nat} (h : i < t.length) : rt t len i = t.getD i 0 := by
  unfold rt
  rw [Nat.mod_eq_of_lt h, Nat.div_eq_of_lt h]
  simp
theorem rt_succ {t : List Int} {len : Int} (ht : t ≠ []) (i : Nat) : rt t len (i + 1) = rt t len i + (gapsRound t len).getD (i % t.length) 0 := by
  have hn : 0 < t.length := List.length_pos_iff.mpr ht
  have hr : i % t.length < t.length := Nat.mod_lt _ hn
  rw [gaps_get hr]
  unfold rt
  by_cases h : i % t.length + 1 < t.length
  · rw [if_pos h]
    have e1 : (i + 1) % t.length = i % t.length + 1 := by rw [Nat.add_mod, Nat.mod_eq_of_lt (show 1 < t.length by omega), Nat.mod_eq_of_lt h]
    have e2 : (i + 1) / t.length = i / t.length := by
      rw [Nat.succ_div, if_neg]
      · rfl
      · intro hd
        have := Nat.mod_eq_zero_of_dvd hd
        omega
    rw [e1, e2]
    omega
  · rw [if_neg h]
    have hq : i % t.length + 1 = t.length := by omega
    have hd : t.length ∣ i + 1 := by
      refine Nat.dvd_of_mod_eq_zero ?_
      rw [Nat.add_mod]
      by_cases h1 : t.length = 1
      · rw [h1]; omega
      · rw [Nat.mod_eq_of_lt (show 1 < t.length by omega), hq, Nat.mod_self]
    have e1 : (i + 1) % t.length = 0 := Nat.mod_eq_zero_of_dvd hd
    have e2 : (i + 1) / t.length = i / t.length + 1 := by rw [Nat.succ_div, if_pos hd]
    rw [e1, e2, headD_eq]
    generalize i / t.length = q
    have : ((q + 1 : Nat) : Int) * len = (q : Int) * len + len := by
      rw [show ((q + 1 : Nat) : Int) = (q : Int) + 1 by omega, Int.add_mul]
      omega
    omega

/-- a round that can be: rising, the last ahead of the next first -/
structure Rnd (t : List Int) (len : Int) : Prop where
  asc : t.Pairwise (· < ·)
  pos : 0 < len
  last : t.getLastD 0 < t.headD 0 + len
theorem gap_pos {t : List Int} {len : Int} (R : Rnd t len) {r : Nat} (h : r < t.length) : 0 < (gapsRound t len).getD r 0 := by
  rw [gaps_get h]
  split
  · have := asc_get R.asc (show r < r + 1 by omega) (by assumption)
    omega
  · have hr : r = t.length - 1 := by omega
    have := R.last
    rw [lastD_eq (fun z => by rw [z] at h; cases h), ← hr] at this
    omega
theorem rt_mono1 {t : List Int} {len : Int} (R : Rnd t len) (ht : t ≠ []) (i : Nat) : rt t len i < rt t len (i + 1) := by
  rw [rt_succ ht]
  have := gap_pos R (Nat.mod_lt i (List.length_pos_iff.mpr ht))
  omega
theorem rt_mono {t : List Int} {len : Int} (R : Rnd t len) (ht : t ≠ []) {i j : Nat} (h : i < j) : rt t len i < rt t len j := by
  induction j with
  | zero => cases h
  | succ j ih =>
    have := rt_mono1 R ht j
    by_cases e : i = j
    · rw [e]; exact this
    · have := ih (by omega)
      omega
theorem rt_mul {t : List Int} {len : Int} (ht : t ≠ []) (i k : Nat) : rt t len (i + k * t.length) = rt t len i + (k : Int) * len := by
  have hn : 0 < t.length := List.length_pos_iff.mpr ht
  unfold rt
  rw [Nat.add_mul_mod_self_right, Nat.add_mul_div_right _ _ hn]
  rw [show ((i / t.length + k : Nat) : Int) = ((i / t.length : Nat) : Int) + (k : Int) by omega, Int.add_mul]
  omega

/-! ### a part of the gaps that comes again and again -/
theorem flat_get {α : Type} (l : List α) : ∀ (k i : Nat), i < k * l.length → (List.replicate k l).flatten[i]? = l[i % l.length]?
  | 0, i, h => by simp at h
  | k + 1, i, h => by
    rw [List.replicate_succ, List.flatten_cons, List.getElem?_append]
    by_cases hi : i < l.length
    · rw [if_pos hi, Nat.mod_eq_of_lt hi]
    · rw [if_neg hi, flat_get l k (i - l.length) (by rw [Nat.succ_mul] at h; omega)]
      congr 1
      conv => rhs; rw [show i = (i - l.length) + l.length by omega, Nat.add_mod_right]
structure Part (g : List Int) (m : Nat) : Prop where
  one : 1 ≤ m
  dvd : m ∣ g.length
  per : ∀ i, i < g.length → g.getD i 0 = g.getD (i % m) 0
theorem part_of {g : List Int} {m : Nat} (h1 : 1 ≤ m) (hg : g ≠ []) (h : partOk g m = true) : Part g m := by
  unfold partOk at h
  rw [Bool.and_eq_true] at h
  have hd : m ∣ g.length := Nat.dvd_of_mod_eq_zero (of_decide_eq_true h.1)
  have he := of_decide_eq_true h.2
  have hn : 0 < g.length := List.length_pos_iff.mpr hg
  have hm : m ≤ g.length := Nat.le_of_dvd hn hd
  refine ⟨h1, hd, fun i hi => ?_⟩
  have hl : (g.take m).length = m := by rw [List.length_take]; omega
  have hmul : g.length / m * m = g.length := Nat.div_mul_cancel hd
  have := flat_get (g.take m) (g.length / m) i (by rw [hl, hmul]; exact hi)
  rw [← he, hl] at this
  rw [List.getD_eq_getElem?_getD, this, List.getElem?_take, if_pos (Nat.mod_lt _ (by omega)), ← List.getD_eq_getElem?_getD]
theorem part_to {g : List Int} {m : Nat} (P : Part g m) : partOk g m = true := by
  unfold partOk
  rw [Bool.and_eq_true]
  refine ⟨decide_eq_true (Nat.mod_eq_zero_of_dvd P.dvd), decide_eq_true ?_⟩
  by_cases hg : g.length = 0
  · rw [List.length_eq_zero_iff.mp hg]; simp
  have hm : m ≤ g.length := Nat.le_of_dvd (by omega) P.dvd
  have hl : (g.take m).length = m := by rw [List.length_take]; omega
  have hmul : g.length / m * m = g.length := Nat.div_mul_cancel P.dvd
  refine List.ext_getElem? fun i => ?_
  by_cases hi : i < g.length
  · rw [flat_get _ _ i (by rw [hl, hmul]; exact hi), hl, List.getElem?_take, if_pos (Nat.mod_lt _ P.one)]
    have h1 := P.per i hi
    have h2 : i % m < g.length := Nat.lt_of_lt_of_le (Nat.mod_lt _ P.one) hm
    rw [getD_eq hi, getD_eq h2] at h1
    rw [List.getElem?_eq_getElem hi, List.getElem?_eq_getElem h2, h1]
  · rw [List.getElem?_eq_none (by omega), List.getElem?_eq_none]
    rw [List.length_flatten, List.map_replicate, List.sum_replicate_nat, hl, hmul]
    omega
theorem leastFrom_part {g : List Int} (hg : g ≠ []) : ∀ n m, 1 ≤ m → m ≤ g.length → n + m = g.length + 1 → Part g (leastFrom g n m) ∧ m ≤ leastFrom g n m ∧ ∀ k, m ≤ k → Part g k → leastFrom g n m ≤ k
  | 0, m, h1, h2, hn => by omega
  | n + 1, m, h1, h2, hn => by
    unfold leastFrom
    by_cases h : partOk g m = true
    · rw [if_pos h]
      exact ⟨part_of h1 hg h, Nat.le_refl _, fun k hk _ => hk⟩
    · rw [if_neg h]
      have hm : m < g.length := by
        rcases Nat.lt_or_ge m g.length with z | z
        · exact z
        · exfalso
          have : m = g.length := by omega
          refine h (part_to ⟨h1, by rw [this]; exact Nat.dvd_refl _, fun i hi => by rw [this, Nat.mod_eq_of_lt hi]⟩)
      obtain ⟨a, b, c⟩ := leastFrom_part hg n (m + 1) (by omega) (by omega) (by omega)
      refine ⟨a, by omega, fun k hk hp => c k ?_ hp⟩
      rcases Nat.lt_or_ge m k with z | z
      · exact z
      · exfalso
        have : k = m := by omega
        rw [this] at hp
        exact h (part_to hp)
theorem least_part {g : List Int} (hg : g ≠ []) : Part g (least g) ∧ ∀ k, Part g k → least g ≤ k := by
  obtain ⟨a, _, c⟩ := leastFrom_part hg g.length 1 (Nat.le_refl _) (List.length_pos_iff.mpr hg) (by omega)
  exact ⟨a, fun k hp => c k hp.one hp⟩
theorem sum_take {t : List Int} {len : Int} (ht : t ≠ []) : ∀ k, k ≤ t.length → ((gapsRound t len).take k).sum = rt t len k - rt t len 0
  | 0, _ => by simp
  | k + 1, h => by
    have hk : k < (gapsRound t len).length := by rw [gaps_len]; omega
    rw [List.take_add_one, List.getElem?_eq_getElem hk, List.sum_append, sum_take ht k (by omega), rt_succ ht, Nat.mod_eq_of_lt (by omega), getD_eq hk]
    simp
    omega
theorem getD_take {l : List Int} {m i : Nat} (h : i < m) : (l.take m).getD i 0 = l.getD i 0 := by
  rw [List.getD_eq_getElem?_getD, List.getElem?_take, if_pos h, ← List.getD_eq_getElem?_getD]
/-- the round of the least part has the same ticks -/
theorem rt_part {t : List Int} {len : Int} {m : Nat} (ht : t ≠ []) (P : Part (gapsRound t len) m) (i : Nat) : rt (t.take m) (((gapsRound t len).take m).sum) i = rt t len i := by
  have hn : 0 < t.length := List.length_pos_iff.mpr ht
  have hg := gaps_len (t := t) (len := len)
  have hmd : m ∣ t.length := hg ▸ P.dvd
  have hm : m ≤ t.length := Nat.le_of_dvd hn hmd
  have h1 := P.one
  rw [sum_take ht m hm]
  have hper : ∀ i, (gapsRound t len).getD (i % t.length) 0 = (gapsRound t len).getD (i % m) 0 := fun i => by
    rw [P.per (i % t.length) (by rw [hg]; exact Nat.mod_lt _ hn), Nat.mod_mod_of_dvd _ hmd]
  have step : ∀ i, rt t len (i + m) = rt t len i + (rt t len m - rt t len 0) := by
    intro i
    induction i with
    | zero => rw [Nat.zero_add]; omega
    | succ i ih =>
      rw [show i + 1 + m = (i + m) + 1 by omega, rt_succ ht, rt_succ ht, ih, hper (i + m), hper i, Nat.add_mod_right]
      omega
  have many : ∀ q r, rt t len (r + q * m) = rt t len r + (q : Int) * (rt t len m - rt t len 0) := by
    intro q r
    induction q with
    | zero => simp
    | succ q ih =>
      rw [show r + (q + 1) * m = (r + q * m) + m by rw [Nat.succ_mul]; omega, step, ih, show ((q + 1 : Nat) : Int) = (q : Int) + 1 by omega, Int.add_mul]
      omega
  have hl : (t.take m).length = m := by rw [List.length_take]; omega
  have hr : i % m < m := Nat.mod_lt _ h1
  have := many (i / m) (i % m)
  rw [show i % m + i / m * m = i by rw [Nat.mul_comm]; exact Nat.mod_add_div i m] at this
  rw [this, rt_lt (show i % m < t.length by omega)]
  unfold rt
  rw [hl, getD_take hr]
theorem rnd_part {t : List Int} {len : Int} {m : Nat} (ht : t ≠ []) (R : Rnd t len) (P : Part (gapsRound t len) m) : Rnd (t.take m) (((gapsRound t len).take m).sum) ∧ ((gapsRound t len).take m).sum ≤ len ∧ t.take m ≠ [] := by
  have hn : 0 < t.length := List.length_pos_iff.mpr ht
  have hmd : m ∣ t.length := gaps_len (t := t) (len := len) ▸ P.dvd
  have hm : m ≤ t.length := Nat.le_of_dvd hn hmd
  have h1 := P.one
  have hl : (t.take m).length = m := by rw [List.length_take]; omega
  have hne : t.take m ≠ [] := fun z => by rw [z] at hl; simp at hl; omega
  have h0 := rt_mono R ht (show 0 < m by omega)
  have hlen : rt t len t.length = rt t len 0 + len := by
    have := rt_mul (len := len) ht 0 1
    simpa using this
  refine ⟨⟨R.asc.sublist (List.take_sublist _ _), ?_, ?_⟩, ?_, hne⟩
  · rw [sum_take ht m hm]; omega
  · rw [sum_take ht m hm, lastD_eq hne, headD_eq, hl, getD_take (by omega), getD_take (by omega)]
    have := rt_mono R ht (show m - 1 < m by omega)
    rw [rt_lt (show m - 1 < t.length by omega)] at this
    rw [← rt_lt (len := len) (show 0 < t.length by omega)]
    omega
  · rw [sum_take ht m hm]
    rcases Nat.lt_or_ge m t.length with z | z
    · have := rt_mono R ht z
      omega
    · have : m = t.length := by omega
      rw [this]
      omega

/-! ### a form -/
structure WF (f : Form) : Prop where
  asc : (f.front ++ f.round).Pairwise (· < ·)
  nn : ∀ x ∈ f.front ++ f.round, 0 ≤ x
  len0 : f.round = [] → f.len = 0
  rnd : f.round ≠ [] → Rnd f.round f.len
  short : f.len ≤ 5040
/-- the i-th tick -/
def tk (f : Form) (i : Nat) : Option Int := if i < f.front.length then f.front[i]? else if f.round = [] then none else some (rt f.round f.len (i - f.front.length))
theorem tickAt_tk (f : Form) (i : Nat) : tickAt f (i : Int) = tk f i := by
  unfold tickAt tk
  by_cases h : i < f.front.length
  · rw [if_pos (by omega), if_pos h, Int.toNat_natCast]
  · rw [if_neg (by omega), if_neg h]
    by_cases hr : f.round = []
    · rw [if_pos hr, if_pos hr]
    · rw [if_neg hr, if_neg hr]
      have hn : 0 < f.round.length := List.length_pos_iff.mpr hr
      obtain ⟨k, hk⟩ : ∃ k : Nat, i = f.front.length + k := ⟨i - f.front.length, by omega⟩
      subst hk
      rw [show f.front.length + k - f.front.length = k by omega, show ((f.front.length + k : Nat) : Int) - (f.front.length : Int) = (k : Int) by omega]
      unfold rt
      have e1 : ((k : Int) % (f.round.length : Int)).toNat = k % f.round.length := by
        rw [← Int.natCast_emod, Int.toNat_natCast]
      have e2 : (k : Int) / (f.round.length : Int) = ((k / f.round.length : Nat) : Int) := by
        rw [Int.natCast_ediv]
      dsimp only
      rw [e1, e2]
theorem last_rev {x : Int} {r : List Int} : (x :: r).reverse = r.reverse ++ [x] := by simp
/-- the front's last goes over into the round -/
theorem roll_rt {t : List Int} {len x : Int} (ht : t ≠ []) (hx : x + len = t.getLastD 0) (i : Nat) : rt (x :: t.dropLast) len (i + 1) = rt t len i ∧ rt (x :: t.dropLast) len 0 = x := by
  have hn : 0 < t.length := List.length_pos_iff.mpr ht
  have hl : (x :: t.dropLast).length = t.length := by rw [List.length_cons, List.length_dropLast]; omega
  have hget : ∀ j, j + 1 < t.length → (x :: t.dropLast).getD (j + 1) 0 = t.getD j 0 := fun j hj => by
    show t.dropLast.getD j 0 = _
    rw [List.dropLast_eq_take, getD_take (by omega)]
  refine ⟨?_, ?_⟩
  · unfold rt
    rw [hl]
    have hr : i % t.length < t.length := Nat.mod_lt _ hn
    by_cases h : i % t.length + 1 < t.length
    · have e1 : (i + 1) % t.length = i % t.length + 1 := by rw [Nat.add_mod, Nat.mod_eq_of_lt (show 1 < t.length by omega), Nat.mod_eq_of_lt h]
      have e2 : (i + 1) / t.length = i / t.length := by
        rw [Nat.succ_div, if_neg]
        · rfl
        · intro hd
          have := Nat.mod_eq_zero_of_dvd hd
          omega
      rw [e1, e2, hget _ h]
    · have hq : i % t.length + 1 = t.length := by omega
      have hd : t.length ∣ i + 1 := by
        refine Nat.dvd_of_mod_eq_zero ?_
        rw [Nat.add_mod]
        by_cases h1 : t.length = 1
        · rw [h1]; omega
        · rw [Nat.mod_eq_of_lt (show 1 < t.length by omega), hq, Nat.mod_self]
      have e1 : (i + 1) % t.length = 0 := Nat.mod_eq_zero_of_dvd hd
      have e2 : (i + 1) / t.length = i / t.length + 1 := by rw [Nat.succ_div, if_pos hd]
      rw [e1, e2]
      rw [lastD_eq ht] at hx
      rw [show i % t.length = t.length - 1 by omega]
      generalize i / t.length = q
      have : ((q + 1 : Nat) : Int) * len = (q : Int) * len + len := by
        rw [show ((q + 1 : Nat) : Int) = (q : Int) + 1 by omega, Int.add_mul]
        omega
      show x + _ = _
      omega
  · unfold rt
    simp
theorem roll_wf : ∀ (r t : List Int) (len : Int), t ≠ [] → WF ⟨r.reverse, t, len⟩ → WF ⟨(rollBack len r t).1, (rollBack len r t).2, len⟩ ∧ (rollBack len r t).2 ≠ [] ∧ (rollBack len r t).2.length = t.length ∧ ∀ i, tk ⟨(rollBack len r t).1, (rollBack len r t).2, len⟩ i = tk ⟨r.reverse, t, len⟩ i
  | [], t, len, ht, W => ⟨W, ht, rfl, fun _ => rfl⟩
  | x :: r, t, len, ht, W => by
    unfold rollBack
    by_cases h : x + len = t.getLastD 0
    · rw [if_pos h]
      have hn : 0 < t.length := List.length_pos_iff.mpr ht
      have R : Rnd t len := W.rnd ht
      have hdl : ∀ y ∈ t.dropLast, y ∈ t := fun y hy => List.dropLast_subset _ hy
      have hsub : (r.reverse ++ (x :: t.dropLast)).Sublist ((x :: r).reverse ++ t) := by
        rw [last_rev, List.append_assoc]
        exact (List.Sublist.refl _).append (.cons₂ x (List.dropLast_sublist _))
      have hxl : x < t.headD 0 := by
        have := R.last
        omega
      have W2 : WF ⟨r.reverse, x :: t.dropLast, len⟩ := by
        refine ⟨W.asc.sublist hsub, fun y hy => W.nn y (hsub.subset hy), fun z => (nomatch z), fun _ => ⟨?_, R.pos, ?_⟩, W.short⟩
        · have := W.asc.sublist hsub
          exact (List.pairwise_append.mp this).2.1
        · show (x :: t.dropLast).getLastD 0 < x + len
          rw [h]
          cases hd : t.dropLast with
          | nil =>
            show x < _
            have := R.pos
            omega
          | cons y l =>
            have h2 : t.dropLast ≠ [] := by rw [hd]; exact List.cons_ne_nil _ _
            have hl2 : 1 < t.length := by
              have : 0 < t.dropLast.length := List.length_pos_iff.mpr h2
              rw [List.length_dropLast] at this
              omega
            show (y :: l).getLastD x < _
            have e : (y :: l).getLastD x = t.dropLast.getLastD 0 := by rw [hd]; rfl
            rw [e, lastD_eq h2, List.length_dropLast, List.dropLast_eq_take, getD_take (by omega), lastD_eq ht]
            exact asc_get R.asc (by omega) (by omega)
      obtain ⟨a, b, c, d⟩ := roll_wf r (x :: t.dropLast) len (List.cons_ne_nil _ _) W2
      refine ⟨a, b, by rw [c, List.length_cons, List.length_dropLast]; omega, fun i => ?_⟩
      rw [d i]
      unfold tk
      dsimp only
      rw [if_neg (List.cons_ne_nil _ _), if_neg ht, last_rev, List.length_append, List.length_singleton]
      by_cases h1 : i < r.reverse.length
      · rw [if_pos h1, if_pos (by omega), List.getElem?_append, if_pos h1]
      · rw [if_neg h1]
        by_cases h2 : i < r.reverse.length + 1
        · have h3 : i = r.reverse.length := by omega
          rw [if_pos h2, h3, Nat.sub_self, (roll_rt ht h 0).2, List.getElem?_append, if_neg (by omega), Nat.sub_self]
          rfl
        · rw [if_neg h2, show i - r.reverse.length = (i - (r.reverse.length + 1)) + 1 by omega, (roll_rt ht h _).1]
    · rw [if_neg h]
      exact ⟨W, ht, rfl, fun _ => rfl⟩
/-- settled: the same ticks, told the shortest way -/
theorem settled_wf {front t : List Int} {len : Int} (ht : t ≠ []) (W : WF ⟨front, t, len⟩) : WF (settled front t len) ∧ (settled front t len).round ≠ [] ∧ (settled front t len).len ≤ len ∧ ∀ i, tk (settled front t len) i = tk ⟨front, t, len⟩ i := by
  unfold settled
  rw [if_neg ht]
  dsimp only
  have hg : gapsRound t len ≠ [] := fun z => by
    have := gaps_len (t := t) (len := len)
    rw [z] at this
    exact ht (List.length_eq_zero_iff.mp this.symm)
  obtain ⟨P, _⟩ := least_part hg
  obtain ⟨R2, hle, hne⟩ := rnd_part ht (W.rnd ht) P
  have W2 : WF ⟨front, t.take (least (gapsRound t len)), ((gapsRound t len).take (least (gapsRound t len))).sum⟩ := by
    have hsub : (front ++ t.take (least (gapsRound t len))).Sublist (front ++ t) := (List.Sublist.refl _).append (List.take_sublist _ _)
    refine ⟨W.asc.sublist hsub, fun y hy => W.nn y (hsub.subset hy), fun z => absurd z hne, fun _ => R2, Int.le_trans hle W.short⟩
  obtain ⟨a, b, c, d⟩ := roll_wf front.reverse _ _ hne (by rw [List.reverse_reverse]; exact W2)
  refine ⟨a, b, hle, fun i => ?_⟩
  rw [d i, List.reverse_reverse]
  unfold tk
  dsimp only
  rw [if_neg hne, if_neg ht]
  by_cases h : i < front.length
  · rw [if_pos h, if_pos h]
  · rw [if_neg h, if_neg h, rt_part ht P]
theorem settled_nil {front : List Int} {len : Int} : settled front [] len = ⟨front, [], 0⟩ := by
  unfold settled
  rw [if_pos rfl]

/-! ### gates -/
theorem gcdZ_nat (n q : Nat) : gcdZ (n : Int) (q : Int) = ((Nat.gcd n q : Nat) : Int) := rfl
def lcmN (n q : Nat) : Nat := n / Nat.gcd n q * q
theorem lcmZ_nat (n q : Nat) : lcmZ (n : Int) (q : Int) = ((lcmN n q : Nat) : Int) := by
  unfold lcmZ lcmN
  rw [gcdZ_nat, ← Int.natCast_ediv, ← Int.natCast_mul]
theorem lcmN_right (n q : Nat) : q ∣ lcmN n q := Nat.dvd_mul_left _ _
theorem lcmN_left (n q : Nat) : n ∣ lcmN n q := by
  obtain ⟨a, ha⟩ := Nat.gcd_dvd_left n q
  obtain ⟨b, hb⟩ := Nat.gcd_dvd_right n q
  unfold lcmN
  by_cases hg : Nat.gcd n q = 0
  · have : n = 0 := (Nat.gcd_eq_zero_iff.mp hg).1
    rw [this]
    simp
  · have e : n / Nat.gcd n q = a := by
      conv => lhs; lhs; rw [ha]
      exact Nat.mul_div_cancel_left _ (by omega)
    rw [e]
    refine ⟨b, ?_⟩
    conv => rhs; lhs; rw [ha]
    conv => lhs; rhs; rw [hb]
    rw [Nat.mul_comm (Nat.gcd n q) a, Nat.mul_assoc]
theorem lcmN_pos {n q : Nat} (h : 0 < n) (h' : 0 < q) : 0 < lcmN n q := by
  unfold lcmN
  have hg : 0 < Nat.gcd n q := Nat.gcd_pos_of_pos_left _ h
  exact Nat.mul_pos (Nat.div_pos (Nat.gcd_le_left _ h) hg) h'
theorem lcmN_le {n q : Nat} : lcmN n q ≤ n * q := Nat.mul_le_mul_right _ (Nat.div_le_self _ _)
/-- the numbers of a round's so many turns by which a sign stands -/
def nums (bits : List Bool) (from_ many : Nat) : List Nat := (List.range many).filter fun i => bitAt bits ((from_ + i : Nat) : Int)
def rawGate (f : Form) (bits : List Bool) : Form :=
  ⟨keptFrom bits 0 f.front, (nums bits f.front.length (lcmN f.round.length bits.length)).map (rt f.round f.len), f.len * ((lcmN f.round.length bits.length / f.round.length : Nat) : Int)⟩
theorem tickZ_rt {f : Form} (h : f.round ≠ []) (i : Nat) : tickZ f ((f.front.length : Int) + (i : Int)) = rt f.round f.len i := by
  unfold tickZ
  have := tickAt_tk f (f.front.length + i)
  rw [show ((f.front.length + i : Nat) : Int) = (f.front.length : Int) + (i : Int) by omega] at this
  rw [this]
  unfold tk
  rw [if_neg (by omega), if_neg h, show f.front.length + i - f.front.length = i by omega]
  rfl
theorem gated_raw {f : Form} {bits : List Bool} (h : f.round ≠ []) : gated f bits = if (rawGate f bits).len > 5040 then none else some (settled (rawGate f bits).front (rawGate f bits).round (rawGate f bits).len) := by
  unfold gated rawGate
  dsimp only
  rw [if_neg h, lcmZ_nat, ← Int.natCast_ediv, Int.toNat_natCast]
  have e : ((rangeZ (f.front.length : Int) (lcmN f.round.length bits.length)).filter (bitAt bits)).map (tickZ f) = (nums bits f.front.length (lcmN f.round.length bits.length)).map (rt f.round f.len) := by
    unfold rangeZ nums
    rw [List.filter_map, List.map_map]
    have e1 : (bitAt bits ∘ fun i : Nat => (f.front.length : Int) + (i : Int)) = fun i : Nat => bitAt bits ((f.front.length + i : Nat) : Int) := by
      funext i
      show bitAt bits _ = _
      congr 1
    have e2 : (tickZ f ∘ fun i : Nat => (f.front.length : Int) + (i : Int)) = rt f.round f.len := by
      funext i
      exact tickZ_rt h i
    rw [e1, e2]
  rw [e]
theorem kept_sub (bits : List Bool) : ∀ (k : Nat) (l : List Int), (keptFrom bits k l).Sublist l
  | _, [] => .slnil
  | k, x :: r => by
    rw [keptFrom]
    split
    · exact .cons₂ x (kept_sub bits (k + 1) r)
    · exact .cons x (kept_sub bits (k + 1) r)
theorem rt_period {t : List Int} {len : Int} (ht : t ≠ []) {M : Nat} (h : t.length ∣ M) (i : Nat) : rt t len (i + M) = rt t len i + len * ((M / t.length : Nat) : Int) := by
  have := rt_mul (len := len) ht i (M / t.length)
  rw [Nat.div_mul_cancel h] at this
  rw [this, Int.mul_comm]
theorem nums_lt {bits : List Bool} {a M i : Nat} (h : i ∈ nums bits a M) : i < M := List.mem_range.mp (List.mem_filter.mp h).1
theorem nums_asc (bits : List Bool) (a M : Nat) : (nums bits a M).Pairwise (· < ·) := List.Pairwise.filter _ List.pairwise_lt_range
theorem headD_mem {l : List Int} (h : l ≠ []) : l.headD 0 ∈ l := by cases l <;> simp_all
theorem lastD_mem {l : List Int} (h : l ≠ []) : l.getLastD 0 ∈ l := by
  rw [List.getLastD_eq_getLast?, List.getLast?_eq_some_getLast h]
  exact List.getLast_mem h
theorem front_lt {f : Form} (W : WF f) (h : f.round ≠ []) {x : Int} (hx : x ∈ f.front) (i : Nat) : x < rt f.round f.len i := by
  have hn : 0 < f.round.length := List.length_pos_iff.mpr h
  have h1 := (List.pairwise_append.mp W.asc).2.2 x hx (f.round.headD 0) (headD_mem h)
  rw [headD_eq, ← rt_lt (len := f.len) hn] at h1
  by_cases hi : i = 0
  · rw [hi]; exact h1
  · have := rt_mono (W.rnd h) h (show 0 < i by omega)
    omega
theorem rt_nn {f : Form} (W : WF f) (h : f.round ≠ []) (i : Nat) : 0 ≤ rt f.round f.len i := by
  have hn : 0 < f.round.length := List.length_pos_iff.mpr h
  have h1 := W.nn (f.round.getD 0 0) (List.mem_append_right _ (getD_mem hn))
  rw [← rt_lt (len := f.len) hn] at h1
  by_cases hi : i = 0
  · rw [hi]; exact h1
  · have := rt_mono (W.rnd h) h (show 0 < i by omega)
    omega
theorem rawGate_wf {f : Form} {bits : List Bool} (W : WF f) (h : f.round ≠ []) (hb : 1 ≤ bits.length) (hw : (rawGate f bits).len ≤ 5040) (hr : (rawGate f bits).round ≠ []) : WF (rawGate f bits) := by
  have hn : 0 < f.round.length := List.length_pos_iff.mpr h
  have R := W.rnd h
  have hM := lcmN_pos hn hb
  have hMd := lcmN_left f.round.length bits.length
  have hper := rt_period (len := f.len) h hMd 0
  rw [Nat.zero_add] at hper
  have mem : ∀ x ∈ (rawGate f bits).round, ∃ i, i < lcmN f.round.length bits.length ∧ x = rt f.round f.len i := fun x hx => by
    obtain ⟨i, hi, rfl⟩ := List.mem_map.mp hx
    exact ⟨i, nums_lt hi, rfl⟩
  have hpos : 0 < (rawGate f bits).len := by
    show 0 < f.len * _
    refine Int.mul_pos R.pos ?_
    have := Nat.div_pos (Nat.le_of_dvd hM hMd) hn
    omega
  refine ⟨?_, ?_, fun z => absurd z hr, fun _ => ⟨?_, hpos, ?_⟩, hw⟩
  · refine List.pairwise_append.mpr ⟨(List.pairwise_append.mp W.asc).1.sublist (kept_sub _ _ _), ?_, ?_⟩
    · refine List.pairwise_map.mpr ((nums_asc _ _ _).imp fun {a b} hab => rt_mono R h hab)
    · intro x hx y hy
      obtain ⟨i, _, rfl⟩ := mem y hy
      exact front_lt W h ((kept_sub _ _ _).subset hx) i
  · intro x hx
    rcases List.mem_append.mp hx with hx | hx
    · exact W.nn x (List.mem_append_left _ ((kept_sub _ _ _).subset hx))
    · obtain ⟨i, _, rfl⟩ := mem x hx
      exact rt_nn W h i
  · exact List.pairwise_map.mpr ((nums_asc _ _ _).imp fun {a b} hab => rt_mono R h hab)
  · obtain ⟨i, hi, ei⟩ := mem _ (lastD_mem hr)
    obtain ⟨j, hj, ej⟩ := mem _ (headD_mem hr)
    rw [ei, ej]
    have h1 := rt_mono R h hi
    have h2 : rt f.round f.len 0 ≤ rt f.round f.len j := by
      by_cases hj : j = 0
      · rw [hj]; omega
      · have := rt_mono R h (show 0 < j by omega)
        omega
    have h3 : (rawGate f bits).len = f.len * ((lcmN f.round.length bits.length / f.round.length : Nat) : Int) := rfl
    omega
theorem WF.nil {front : List Int} (h1 : front.Pairwise (· < ·)) (h2 : ∀ x ∈ front, 0 ≤ x) : WF ⟨front, [], 0⟩ :=
  ⟨by rw [List.append_nil]; exact h1, fun x hx => h2 x (by rw [List.append_nil] at hx; exact hx), fun _ => rfl, fun z => absurd rfl z, by show (0 : Int) ≤ 5040; decide⟩
theorem gated_wf {f g : Form} {bits : List Bool} (W : WF f) (hb : 1 ≤ bits.length) (e : gated f bits = some g) : WF g := by
  have hk : WF ⟨keptFrom bits 0 f.front, [], 0⟩ := WF.nil ((List.pairwise_append.mp W.asc).1.sublist (kept_sub _ _ _)) fun x hx => W.nn x (List.mem_append_left _ ((kept_sub _ _ _).subset hx))
  by_cases h : f.round = []
  · unfold gated at e
    dsimp only at e
    rw [if_pos h] at e
    cases e
    exact hk
  · rw [gated_raw h] at e
    by_cases hw : (rawGate f bits).len > 5040
    · rw [if_pos hw] at e; cases e
    · rw [if_neg hw] at e
      cases e
      by_cases hr : (rawGate f bits).round = []
      · rw [hr, settled_nil]
        exact hk
      · exact (settled_wf hr (rawGate_wf W h hb (by omega) hr)).1
theorem later_wf {f : Form} (W : WF f) (m : Nat) : WF (laterF f m) := by
  have hm : (laterF f m).front ++ (laterF f m).round = (f.front ++ f.round).map (· + (m : Int)) := by
    unfold laterF
    rw [List.map_append]
  refine ⟨?_, ?_, fun z => W.len0 (List.map_eq_nil_iff.mp z), fun z => ?_, W.short⟩
  · rw [hm]
    exact List.pairwise_map.mpr (W.asc.imp fun {a b} h => by omega)
  · rw [hm]
    intro x hx
    obtain ⟨y, hy, rfl⟩ := List.mem_map.mp hx
    have := W.nn y hy
    omega
  · have hr : f.round ≠ [] := fun q => z (by unfold laterF; rw [q]; rfl)
    have R := W.rnd hr
    have hn : 0 < f.round.length := List.length_pos_iff.mpr hr
    refine ⟨List.pairwise_map.mpr (R.asc.imp fun {a b} h => by omega), R.pos, ?_⟩
    have hl := R.last
    rw [lastD_eq hr, headD_eq] at hl
    rw [lastD_eq z, headD_eq]
    show ((f.round.map (· + (m : Int))).getD ((f.round.map (· + (m : Int))).length - 1) 0) < _ + f.len
    rw [List.length_map]
    rw [getD_eq (show f.round.length - 1 < f.round.length by omega), getD_eq hn] at hl
    rw [getD_eq (show f.round.length - 1 < (f.round.map (· + (m : Int))).length by rw [List.length_map]; omega)]
    show _ < (f.round.map (· + (m : Int))).getD 0 0 + f.len
    rw [getD_eq (show 0 < (f.round.map (· + (m : Int))).length by rw [List.length_map]; omega), List.getElem_map, List.getElem_map]
    omega
/-- a form told late enough is not too great -/
structure Few (f : Form) : Prop where
  front : f.front.length ≤ 6000
  round : f.round.length ≤ 6000
  len : f.round ≠ [] → 0 < f.len
  lo : 0 ≤ f.len
  hi : f.len ≤ 6000
theorem lateOf_round {f : Form} (h : f.round ≠ []) : lateOf f = f.round.headD 0 := by
  unfold lateOf
  cases hr : f.round with
  | nil => exact absurd hr h
  | cons x r => rfl
theorem lateOf_front {f : Form} (h : f.round = []) (h' : f.front ≠ []) : lateOf f = f.front.getLastD 0 := by
  unfold lateOf
  rw [h]
  have hp : 0 < f.front.length := List.length_pos_iff.mpr h'
  have : f.front.drop (f.front.length - 1) = [f.front.getLastD 0] := by
    rw [lastD_eq h', getD_eq (show f.front.length - 1 < f.front.length by omega)]
    rw [List.drop_eq_getElem_cons (show f.front.length - 1 < f.front.length by omega)]
    rw [show f.front.length - 1 + 1 = f.front.length by omega, List.drop_length]
  rw [this]
  rfl
theorem few_of {f : Form} (W : WF f) (hl : lateOf f ≤ 5040) : Few f := by
  have hf : (f.front.length : Int) ≤ 5041 := by
    have hasc := (List.pairwise_append.mp W.asc).1
    refine Int.le_trans (asc_len (lo := 0) (hi := 5041) hasc (fun x hx => ⟨W.nn x (List.mem_append_left _ hx), ?_⟩) (by omega)) (by omega)
    by_cases hr : f.round = []
    · have hne : f.front ≠ [] := fun z => by rw [z] at hx; cases hx
      rw [lateOf_front hr hne] at hl
      obtain ⟨i, hi, rfl⟩ := List.getElem_of_mem hx
      rw [lastD_eq hne] at hl
      by_cases h2 : i = f.front.length - 1
      · rw [← h2, getD_eq hi] at hl
        omega
      · have := asc_get hasc (show i < f.front.length - 1 by omega) (by omega)
        rw [getD_eq hi] at this
        omega
    · rw [lateOf_round hr] at hl
      have := (List.pairwise_append.mp W.asc).2.2 x hx _ (headD_mem hr)
      omega
  have hlo : 0 ≤ f.len := by
    by_cases hr : f.round = []
    · rw [W.len0 hr]; omega
    · have := (W.rnd hr).pos; omega
  have hs := W.short
  refine ⟨by omega, ?_, fun h => (W.rnd h).pos, hlo, by omega⟩
  by_cases hr : f.round = []
  · rw [hr]; simp
  · have R := W.rnd hr
    have := asc_len (lo := f.round.headD 0) (hi := f.round.headD 0 + f.len) R.asc (fun x hx => ?_) (by omega)
    · omega
    · obtain ⟨i, hi, rfl⟩ := List.getElem_of_mem hx
      have hl := R.last
      rw [lastD_eq hr] at hl
      rw [headD_eq] at hl ⊢
      constructor
      · by_cases h0 : i = 0
        · subst h0; rw [getD_eq hi]; omega
        · have := asc_get R.asc (show 0 < i by omega) hi
          rw [getD_eq hi] at this
          omega
      · by_cases h2 : i = f.round.length - 1
        · rw [← h2, getD_eq hi] at hl
          omega
        · have := asc_get R.asc (show i < f.round.length - 1 by omega) (by omega)
          rw [getD_eq hi] at this
          omega
theorem checked_some {f g : Form} (h : checked f = some g) : g = f ∧ lateOf f ≤ 5040 := by
  unfold checked at h
  split at h
  · cases h
  · cases h
    exact ⟨rfl, by omega⟩
end TD

/-! The ticks of a form as a set; rising lists told by their members. -/
namespace TD

abbrev Asc (l : List Int) : Prop := l.Pairwise (· < ·)
theorem asc_ext : ∀ {l l' : List Int}, Asc l → Asc l' → (∀ x, x ∈ l ↔ x ∈ l') → l = l'
  | [], [], _, _, _ => rfl
  | [], y :: r, _, _, h => absurd ((h y).mpr List.mem_cons_self) List.not_mem_nil
  | x :: r, [], _, _, h => absurd ((h x).mp List.mem_cons_self) List.not_mem_nil
  | x :: l, y :: r, h1, h2, h => by
    obtain ⟨a1, a2⟩ := List.pairwise_cons.mp h1
    obtain ⟨b1, b2⟩ := List.pairwise_cons.mp h2
    have e : x = y := by
      have hx := (h x).mp List.mem_cons_self
      have hy := (h y).mpr List.mem_cons_self
      rcases List.mem_cons.mp hx with e | hx
      · exact e
      rcases List.mem_cons.mp hy with e | hy
      · exact e.symm
      have := b1 x hx
      have := a1 y hy
      omega
    subst e
    refine congrArg (x :: ·) (asc_ext a2 b2 fun z => ⟨fun hz => ?_, fun hz => ?_⟩)
    · have := a1 z hz
      rcases List.mem_cons.mp ((h z).mp (List.mem_cons_of_mem _ hz)) with e | e
      · omega
      · exact e
    · have := b1 z hz
      rcases List.mem_cons.mp ((h z).mpr (List.mem_cons_of_mem _ hz)) with e | e
      · omega
      · exact e
theorem filt_len (e : Int) : ∀ {l : List Int}, Asc l → ∀ i, i < (l.filter fun x => decide (x < e)).length ↔ ∃ x, l[i]? = some x ∧ x < e
  | [], _, i => by simp
  | x :: r, h, i => by
    obtain ⟨h1, h2⟩ := List.pairwise_cons.mp h
    by_cases hx : x < e
    · rw [List.filter_cons_of_pos (by simpa using hx)]
      cases i with
      | zero => simp [hx]
      | succ i =>
        rw [List.length_cons, List.getElem?_cons_succ]
        exact Iff.trans (by omega) (filt_len e h2 i)
    · have hz : (x :: r).filter (fun x => decide (x < e)) = [] := by
        refine List.filter_eq_nil_iff.mpr fun y hy => ?_
        rcases List.mem_cons.mp hy with rfl | hy
        · simpa using hx
        · have := h1 y hy
          simp
          omega
      rw [hz]
      constructor
      · intro h; cases h
      · rintro ⟨y, hy, hye⟩
        rcases List.mem_cons.mp (List.mem_of_getElem? hy) with rfl | h3
        · exact absurd hye hx
        · have := h1 y h3
          omega
theorem asc_of_get {l : List Int} (h : ∀ (i j : Nat) (x y : Int), l[i]? = some x → l[j]? = some y → i < j → x < y) : Asc l :=
  List.pairwise_iff_getElem.mpr fun i j hi hj hij => h i j _ _ (List.getElem?_eq_getElem hi) (List.getElem?_eq_getElem hj) hij
theorem asc_lt {l : List Int} (h : Asc l) {i j : Nat} {x y : Int} (hi : l[i]? = some x) (hj : l[j]? = some y) (hij : i < j) : x < y := by
  obtain ⟨h1, rfl⟩ := List.getElem?_eq_some_iff.mp hi
  obtain ⟨h2, rfl⟩ := List.getElem?_eq_some_iff.mp hj
  exact List.pairwise_iff_getElem.mp h i j h1 h2 hij

/-! ### the i-th tick -/
section
variable {f : Form}
theorem tk_mono (W : WF f) {i j : Nat} {x y : Int} (hi : tk f i = some x) (hj : tk f j = some y) (h : i < j) : x < y := by
  unfold tk at hi hj
  by_cases h1 : i < f.front.length
  · rw [if_pos h1] at hi
    by_cases h2 : j < f.front.length
    · rw [if_pos h2] at hj
      exact asc_lt (List.pairwise_append.mp W.asc).1 hi hj h
    · rw [if_neg h2] at hj
      by_cases hr : f.round = []
      · rw [if_pos hr] at hj; cases hj
      · rw [if_neg hr] at hj
        cases hj
        exact front_lt W hr (List.mem_of_getElem? hi) _
  · rw [if_neg h1] at hi
    rw [if_neg (by omega)] at hj
    by_cases hr : f.round = []
    · rw [if_pos hr] at hj; cases hj
    · rw [if_neg hr] at hi hj
      cases hi
      cases hj
      exact rt_mono (W.rnd hr) hr (by omega)
theorem tk_lt (W : WF f) {i j : Nat} {x y : Int} (hi : tk f i = some x) (hj : tk f j = some y) : i < j ↔ x < y := by
  refine ⟨tk_mono W hi hj, fun h => ?_⟩
  rcases Nat.lt_trichotomy i j with z | z | z
  · exact z
  · rw [z, hj] at hi
    cases hi
    omega
  · have := tk_mono W hj hi z
    omega
theorem tk_inj (W : WF f) {i j : Nat} {x : Int} (hi : tk f i = some x) (hj : tk f j = some x) : i = j := by
  have h1 := tk_lt W hi hj
  have h2 := tk_lt W hj hi
  omega
theorem tk_down {i j : Nat} {y : Int} (h : tk f j = some y) (hij : i ≤ j) : ∃ x, tk f i = some x := by
  unfold tk at h ⊢
  by_cases h1 : i < f.front.length
  · rw [if_pos h1]
    exact ⟨_, List.getElem?_eq_getElem h1⟩
  · rw [if_neg h1]
    rw [if_neg (by omega)] at h
    by_cases hr : f.round = []
    · rw [if_pos hr] at h; cases h
    · rw [if_neg hr]
      exact ⟨_, rfl⟩
theorem tk_front {i : Nat} (h : i < f.front.length) : tk f i = f.front[i]? := by
  unfold tk
  rw [if_pos h]
theorem tk_round (h : f.round ≠ []) (j : Nat) : tk f (f.front.length + j) = some (rt f.round f.len j) := by
  unfold tk
  rw [if_neg (by omega), if_neg h, show f.front.length + j - f.front.length = j by omega]
theorem tk_end (h : f.round = []) {i : Nat} (hi : f.front.length ≤ i) : tk f i = none := by
  unfold tk
  rw [if_neg (by omega), if_pos h]
theorem tk_nn (W : WF f) {i : Nat} {x : Int} (h : tk f i = some x) : 0 ≤ x := by
  unfold tk at h
  by_cases h1 : i < f.front.length
  · rw [if_pos h1] at h
    exact W.nn x (List.mem_append_left _ (List.mem_of_getElem? h))
  · rw [if_neg h1] at h
    by_cases hr : f.round = []
    · rw [if_pos hr] at h; cases h
    · rw [if_neg hr] at h
      cases h
      exact rt_nn W hr _
theorem rt_head (h : f.round ≠ []) : rt f.round f.len 0 = f.round.headD 0 := by
  rw [rt_lt (List.length_pos_iff.mpr h), headD_eq]
theorem head_rt (W : WF f) (h : f.round ≠ []) (j : Nat) : f.round.headD 0 ≤ rt f.round f.len j := by
  rw [← rt_head h]
  by_cases hj : j = 0
  · rw [hj]; omega
  · have := rt_mono (W.rnd h) h (show 0 < j by omega)
    omega
/-- x is a tick -/
def tick (f : Form) (x : Int) : Prop := ∃ i, tk f i = some x
theorem tick_iff {x : Int} : tick f x ↔ x ∈ f.front ∨ ∃ y ∈ f.round, ∃ k : Nat, x = y + (k : Int) * f.len := by
  constructor
  · rintro ⟨i, h⟩
    unfold tk at h
    by_cases h1 : i < f.front.length
    · rw [if_pos h1] at h
      exact .inl (List.mem_of_getElem? h)
    · rw [if_neg h1] at h
      by_cases hr : f.round = []
      · rw [if_pos hr] at h; cases h
      · rw [if_neg hr] at h
        cases h
        exact .inr ⟨_, getD_mem (Nat.mod_lt _ (List.length_pos_iff.mpr hr)), (i - f.front.length) / f.round.length, rfl⟩
  · rintro (h | ⟨y, hy, k, rfl⟩)
    · obtain ⟨i, hi, rfl⟩ := List.getElem_of_mem h
      exact ⟨i, by rw [tk_front hi]; exact List.getElem?_eq_getElem hi⟩
    · obtain ⟨j, hj, rfl⟩ := List.getElem_of_mem hy
      have hr : f.round ≠ [] := fun z => by rw [z] at hj; cases hj
      refine ⟨f.front.length + (j + k * f.round.length), ?_⟩
      rw [tk_round hr, rt_mul hr, rt_lt hj, getD_eq hj]
theorem tick_nn (W : WF f) {x : Int} (h : tick f x) : 0 ≤ x := let ⟨_, h⟩ := h; tk_nn W h
/-- the round's ticks are less than its length apart -/
theorem round_lt (W : WF f) (h : f.round ≠ []) {y : Int} (hy : y ∈ f.round) : f.round.headD 0 ≤ y ∧ y < f.round.headD 0 + f.len := by
  have R := W.rnd h
  obtain ⟨i, hi, rfl⟩ := List.getElem_of_mem hy
  have hl := R.last
  rw [lastD_eq h] at hl
  rw [headD_eq] at hl ⊢
  constructor
  · by_cases h0 : i = 0
    · subst h0; rw [getD_eq hi]; omega
    · have := asc_get R.asc (show 0 < i by omega) hi
      rw [getD_eq hi] at this
      omega
  · by_cases h2 : i = f.round.length - 1
    · rw [← h2, getD_eq hi] at hl
      omega
    · have := asc_get R.asc (show i < f.round.length - 1 by omega) (by omega)
      rw [getD_eq hi] at this
      omega

/-! ### how many ticks are ahead -/
def cnt (f : Form) (e : Int) : Nat := (countAhead f e).toNat
theorem cnt_both (W : WF f) (e : Int) : 0 ≤ countAhead f e ∧ ∀ i, i < cnt f e ↔ ∃ x, tk f i = some x ∧ x < e := by
  have hfa : Asc f.front := (List.pairwise_append.mp W.asc).1
  have hra : Asc f.round := (List.pairwise_append.mp W.asc).2.1
  unfold cnt countAhead countBelow
  by_cases hc : f.round = [] ∨ e ≤ f.round.headD 0
  · rw [if_pos hc, Int.toNat_natCast]
    refine ⟨by omega, fun i => ?_⟩
    rw [filt_len e hfa]
    by_cases hi : i < f.front.length
    · rw [tk_front hi]
    · rw [List.getElem?_eq_none (by omega)]
      constructor
      · rintro ⟨x, h, _⟩; cases h
      · rintro ⟨x, h, hx⟩
        by_cases hr : f.round = []
        · rw [tk_end hr (by omega)] at h; cases h
        · rw [show i = f.front.length + (i - f.front.length) by omega, tk_round hr] at h
          cases h
          have h0 := head_rt W hr (i - f.front.length)
          rcases hc with hc | hc
          · exact absurd hc hr
          · omega
  · rw [if_neg hc]
    have hr : f.round ≠ [] := fun z => hc (.inl z)
    have hh : f.round.headD 0 < e := by
      rcases Int.lt_or_le (f.round.headD 0) e with z | z
      · exact z
      · exact absurd (.inr z) hc
    have hn : 0 < f.round.length := List.length_pos_iff.mpr hr
    have R := W.rnd hr
    have hfl : ∀ x ∈ f.front, x < e := fun x hx => by
      have := front_lt W hr hx 0
      rw [rt_head hr] at this
      omega
    rw [List.filter_eq_self.mpr fun x hx => by simpa using hfl x hx]
    have hhead : ∀ r, r < f.round.length → f.round.headD 0 ≤ f.round.getD r 0 ∧ f.round.getD r 0 < f.round.headD 0 + f.len := fun r h => round_lt W hr (getD_mem h)
    have hpos := R.pos
    generalize hH : f.round.headD 0 = head at *
    obtain ⟨q, hq⟩ : ∃ q : Nat, (e - head) / f.len = (q : Int) := ⟨((e - head) / f.len).toNat, (Int.toNat_of_nonneg (Int.ediv_nonneg (by omega) (by omega))).symm⟩
    have hdm := Int.mul_ediv_add_emod (e - head) f.len
    have hr0 := Int.emod_nonneg (e - head) (show f.len ≠ 0 by omega)
    have hr1 := Int.emod_lt_of_pos (e - head) hpos
    rw [hq] at hdm ⊢
    generalize (e - head) % f.len = rest at *
    rw [show (f.round.filter fun x => decide (x - head < rest)) = f.round.filter fun x => decide (x < head + rest) from List.filter_congr fun x _ => by
      have : (x - head < rest) ↔ x < head + rest := by omega
      simp [this]]
    have hm := filt_len (head + rest) hra
    have hmn : (f.round.filter fun x => decide (x < head + rest)).length ≤ f.round.length := List.length_filter_le _ _
    generalize (f.round.filter fun x => decide (x < head + rest)).length = m at *
    rw [show ((f.front.length : Int) + (q : Int) * (f.round.length : Int) + (m : Int)) = ((f.front.length + q * f.round.length + m : Nat) : Int) by push_cast; rfl, Int.toNat_natCast]
    refine ⟨Int.natCast_nonneg _, fun i => ?_⟩
    by_cases hi : i < f.front.length
    · rw [tk_front hi, List.getElem?_eq_getElem hi]
      exact ⟨fun _ => ⟨_, rfl, hfl _ (List.getElem_mem hi)⟩, fun _ => by omega⟩
    · obtain ⟨j, rfl⟩ : ∃ j, i = f.front.length + j := ⟨i - f.front.length, by omega⟩
      rw [tk_round hr]
      have hkey : rt f.round f.len j < e ↔ j < q * f.round.length + m := by
        have hj := Nat.div_add_mod j f.round.length
        have hlt := Nat.mod_lt j hn
        unfold rt
        obtain ⟨y0, y1⟩ := hhead _ hlt
        have hmr := hm (j % f.round.length)
        rw [List.getElem?_eq_getElem hlt] at hmr
        have hy : f.round[j % f.round.length] = f.round.getD (j % f.round.length) 0 := (getD_eq hlt).symm
        rw [hy] at hmr
        clear hy hhead hm hfa hra hfl W R
        clear hlt
        have hlt := Nat.mod_lt j hn
        generalize f.round.getD (j % f.round.length) 0 = y at *
        generalize j % f.round.length = r at *
        generalize j / f.round.length = d at *
        generalize f.round.length = n at *
        generalize f.len = len at *
        rcases Nat.lt_trichotomy d q with h | h | h
        · obtain ⟨c, rfl⟩ : ∃ c, q = d + 1 + c := ⟨q - d - 1, by omega⟩
          have e1 : len * ((d + 1 + c : Nat) : Int) = d * len + len + c * len := by
            push_cast
            rw [Int.mul_add, Int.mul_add, Int.mul_one, Int.mul_comm len d, Int.mul_comm len c]
          have e2 : (d + 1 + c) * n = n * d + n + c * n := by
            rw [Nat.add_mul, Nat.add_mul, Nat.one_mul, Nat.mul_comm d n]
          have e3 : 0 ≤ (c : Int) * len := Int.mul_nonneg (by omega) (by omega)
          rw [e2]
          constructor <;> intro _ <;> omega
        · subst h
          have e1 : len * (d : Int) = d * len := Int.mul_comm _ _
          have e2 : d * n = n * d := Nat.mul_comm _ _
          have hmr2 : r < m ↔ y < head + rest := hmr.trans ⟨fun ⟨x, hx, hxe⟩ => by cases hx; exact hxe, fun hx => ⟨_, rfl, hx⟩⟩
          rw [e2]
          constructor
          · intro _
            have := hmr2.mpr (by omega)
            omega
          · intro _
            have := hmr2.mp (by omega)
            omega
        · obtain ⟨c, rfl⟩ : ∃ c, d = q + 1 + c := ⟨d - q - 1, by omega⟩
          have e1 : ((q + 1 + c : Nat) : Int) * len = q * len + len + c * len := by
            push_cast
            rw [Int.add_mul, Int.add_mul, Int.one_mul]
          have e2 : n * (q + 1 + c) = q * n + n + c * n := by
            rw [Nat.mul_add, Nat.mul_add, Nat.mul_one, Nat.mul_comm n q, Nat.mul_comm n c]
          have e3 : 0 ≤ (c : Int) * len := Int.mul_nonneg (by omega) (by omega)
          have e4 : len * (q : Int) = q * len := Int.mul_comm _ _
          constructor <;> intro _ <;> omega
      constructor
      · intro h
        exact ⟨_, rfl, hkey.mpr (by omega)⟩
      · rintro ⟨x, hx, hxe⟩
        cases hx
        have := hkey.mp hxe
        omega
theorem cnt_spec (W : WF f) {e : Int} {i : Nat} : i < cnt f e ↔ ∃ x, tk f i = some x ∧ x < e := (cnt_both W e).2 i
theorem cnt_eq (W : WF f) (e : Int) : countAhead f e = (cnt f e : Int) := (Int.toNat_of_nonneg (cnt_both W e).1).symm
theorem tickZ_tk {i : Nat} {x : Int} (h : tk f i = some x) : tickZ f (i : Int) = x := by
  unfold tickZ
  rw [tickAt_tk, h]
  rfl
theorem all_get (W : WF f) {e : Int} {i : Nat} {x : Int} : (allAhead f e)[i]? = some x ↔ tk f i = some x ∧ x < e := by
  have hl : (allAhead f e).length = cnt f e := by
    unfold allAhead rangeZ cnt
    simp
  by_cases hi : i < cnt f e
  · obtain ⟨y, hy, hye⟩ := (cnt_spec W).mp hi
    have : (allAhead f e)[i]? = some y := by
      unfold allAhead rangeZ
      rw [List.getElem?_map, List.getElem?_map, show (countAhead f e).toNat = cnt f e from rfl, List.getElem?_range hi]
      show some (tickZ f (0 + (i : Int))) = _
      rw [Int.zero_add, tickZ_tk hy]
    rw [this, hy]
    constructor
    · intro h
      cases h
      exact ⟨rfl, hye⟩
    · exact fun h => h.1
  · rw [List.getElem?_eq_none (by omega)]
    constructor
    · intro h; cases h
    · rintro ⟨h1, h2⟩
      exact absurd ((cnt_spec W).mpr ⟨x, h1, h2⟩) hi
theorem all_len {e : Int} : (allAhead f e).length = cnt f e := by
  unfold allAhead rangeZ cnt
  simp
theorem all_asc (W : WF f) (e : Int) : Asc (allAhead f e) := asc_of_get fun i j x y hi hj hij => tk_mono W ((all_get W).mp hi).1 ((all_get W).mp hj).1 hij
theorem all_mem (W : WF f) {e x : Int} : x ∈ allAhead f e ↔ tick f x ∧ x < e := by
  rw [List.mem_iff_getElem?]
  constructor
  · rintro ⟨i, h⟩
    obtain ⟨h1, h2⟩ := (all_get W).mp h
    exact ⟨⟨i, h1⟩, h2⟩
  · rintro ⟨⟨i, h1⟩, h2⟩
    exact ⟨i, (all_get W).mpr ⟨h1, h2⟩⟩
theorem all_le (W : WF f) {e e' : Int} (h : e ≤ e') : (allAhead f e').filter (fun x => decide (x < e)) = allAhead f e := by
  refine asc_ext ((all_asc W e').filter _) (all_asc W e) fun x => ?_
  rw [List.mem_filter, all_mem W, all_mem W, decide_eq_true_eq]
  constructor
  · rintro ⟨⟨a, _⟩, b⟩
    exact ⟨a, b⟩
  · rintro ⟨a, b⟩
    exact ⟨⟨a, by omega⟩, b⟩
theorem all_len_le (W : WF f) {e : Int} (h : 0 ≤ e) : ((allAhead f e).length : Int) ≤ e := by
  have := asc_len (all_asc W e) (lo := 0) (hi := e) (fun x hx => by
    obtain ⟨a, b⟩ := (all_mem W).mp hx
    exact ⟨tick_nn W a, b⟩) h
  omega
end
/-! ### settled -/
theorem settled_tick {front t : List Int} {len : Int} (h : t ≠ [] → WF ⟨front, t, len⟩) {x : Int} : tick (settled front t len) x ↔ tick ⟨front, t, len⟩ x := by
  by_cases ht : t = []
  · subst ht
    rw [settled_nil, tick_iff, tick_iff]
    simp
  · obtain ⟨_, _, _, e⟩ := settled_wf ht (h ht)
    unfold tick
    simp only [e]
/-- the front is as short as can be -/
def Min (f : Form) : Prop := f.round ≠ [] → f.front = [] ∨ f.front.getLastD 0 + f.len ≠ f.round.getLastD 0
theorem roll_min (len : Int) : ∀ (r t : List Int), (rollBack len r t).1 = [] ∨ (rollBack len r t).1.getLastD 0 + len ≠ (rollBack len r t).2.getLastD 0
  | [], t => .inl rfl
  | x :: r, t => by
    unfold rollBack
    by_cases h : x + len = t.getLastD 0
    · rw [if_pos h]
      exact roll_min len r _
    · rw [if_neg h]
      refine .inr ?_
      have : (x :: r).reverse.getLastD 0 = x := by
        rw [last_rev, List.getLastD_eq_getLast?, List.getLast?_append]
        rfl
      dsimp only
      rw [this]
      exact h
theorem settled_min {front t : List Int} {len : Int} : Min (settled front t len) := by
  intro h
  unfold settled at h ⊢
  by_cases ht : t = []
  · rw [if_pos ht] at h
    exact absurd rfl h
  · rw [if_neg ht]
    exact roll_min _ _ _
theorem roll_len (len : Int) : ∀ (r t : List Int), t ≠ [] → (rollBack len r t).2.length = t.length
  | [], t, _ => rfl
  | x :: r, t, h => by
    unfold rollBack
    by_cases hx : x + len = t.getLastD 0
    · rw [if_pos hx, roll_len len r _ (List.cons_ne_nil _ _), List.length_cons, List.length_dropLast]
      have := List.length_pos_iff.mpr h
      omega
    · rw [if_neg hx]
theorem settled_dvd {front t : List Int} {len : Int} (ht : t ≠ []) : (settled front t len).len ∣ len := by
  unfold settled
  rw [if_neg ht]
  dsimp only
  have hg : gapsRound t len ≠ [] := fun z => by
    have := gaps_len (t := t) (len := len)
    rw [z] at this
    exact ht (List.length_eq_zero_iff.mp this.symm)
  obtain ⟨P, _⟩ := least_part hg
  have hn : 0 < t.length := List.length_pos_iff.mpr ht
  have hmd : least (gapsRound t len) ∣ t.length := gaps_len (t := t) (len := len) ▸ P.dvd
  have hm := Nat.le_of_dvd hn hmd
  have h1 := P.one
  have e := rt_part ht P t.length
  have e0 := rt_part ht P 0
  have hlen := rt_mul (len := len) ht 0 1
  rw [Nat.zero_add, Nat.one_mul] at hlen
  have hl : (t.take (least (gapsRound t len))).length = least (gapsRound t len) := by rw [List.length_take]; omega
  have hne : t.take (least (gapsRound t len)) ≠ [] := fun z => by rw [z] at hl; simp at hl; omega
  have e2 := rt_mul (len := ((gapsRound t len).take (least (gapsRound t len))).sum) hne 0 (t.length / least (gapsRound t len))
  rw [hl, Nat.div_mul_cancel hmd, Nat.zero_add, e, e0, hlen] at e2
  generalize ((gapsRound t len).take (least (gapsRound t len))).sum = L at *
  refine ⟨((t.length / least (gapsRound t len) : Nat) : Int), ?_⟩
  rw [Int.mul_comm]
  omega
theorem settled_round {front t : List Int} {len : Int} (ht : t ≠ []) : (settled front t len).round ≠ [] := by
  unfold settled
  rw [if_neg ht]
  dsimp only
  intro z
  have hg : gapsRound t len ≠ [] := fun z => by
    have := gaps_len (t := t) (len := len)
    rw [z] at this
    exact ht (List.length_eq_zero_iff.mp this.symm)
  obtain ⟨P, _⟩ := least_part hg
  have hl : 0 < (t.take (least (gapsRound t len))).length := by
    rw [List.length_take]
    have := List.length_pos_iff.mpr ht
    have := P.one
    omega
  have := roll_len (((gapsRound t len).take (least (gapsRound t len))).sum) front.reverse (t.take (least (gapsRound t len))) (List.length_pos_iff.mp hl)
  rw [z] at this
  rw [List.length_nil] at this
  omega
/-! ### from where on, and by how much, it goes round -/
structure Per (f : Form) (B W : Int) : Prop where
  b0 : 0 ≤ B
  w1 : 1 ≤ W
  per : ∀ x, B ≤ x → (tick f x ↔ tick f (x + W))
theorem Per.mul {f : Form} {B W : Int} (p : Per f B W) {x : Int} (hx : B ≤ x) : ∀ k : Nat, tick f x ↔ tick f (x + (k : Int) * W)
  | 0 => by simp
  | k + 1 => by
    have h0 : 0 ≤ (k : Int) * W := Int.mul_nonneg (by omega) (by have := p.w1; omega)
    rw [p.mul hx k, p.per _ (by omega), show x + (k : Int) * W + W = x + ((k + 1 : Nat) : Int) * W by push_cast; rw [Int.add_mul, Int.one_mul]; omega]
/-- a form goes round from its start on -/
theorem start_nn {f : Form} (W : WF f) : 0 ≤ startOf f := by
  unfold startOf
  by_cases hr : f.round = []
  · rw [if_neg (by simp [hr])]
    by_cases hf : f.front = []
    · rw [if_neg (by simp [hf])]; omega
    · rw [if_pos hf]
      have := W.nn _ (List.mem_append_left _ (lastD_mem hf))
      omega
  · rw [if_pos hr]
    exact W.nn _ (List.mem_append_right _ (headD_mem hr))
theorem front_start {f : Form} (W : WF f) {x : Int} (hx : x ∈ f.front) : x < startOf f := by
  unfold startOf
  by_cases hr : f.round = []
  · have hne : f.front ≠ [] := fun z => by rw [z] at hx; cases hx
    rw [if_neg (by simp [hr]), if_pos hne]
    have hasc := (List.pairwise_append.mp W.asc).1
    obtain ⟨i, hi, rfl⟩ := List.getElem_of_mem hx
    rw [lastD_eq hne]
    by_cases h2 : i = f.front.length - 1
    · rw [← h2, getD_eq hi]; omega
    · have := asc_get hasc (show i < f.front.length - 1 by omega) (by omega)
      rw [getD_eq hi] at this
      omega
  · rw [if_pos hr]
    have := front_lt W hr hx 0
    rwa [rt_head hr] at this
theorem start_per {f : Form} (W : WF f) {L : Int} (hL : 1 ≤ L) (hd : f.round ≠ [] → f.len ∣ L) : Per f (startOf f) L := by
  refine ⟨start_nn W, hL, fun x hx => ?_⟩
  have hnf : ∀ y, startOf f ≤ y → y ∉ f.front := fun y hy hm => by
    have := front_start W hm
    omega
  rw [tick_iff, tick_iff]
  by_cases hr : f.round = []
  · rw [hr]
    simp [hnf x hx, hnf (x + L) (by omega)]
  · obtain ⟨c, hc⟩ := hd hr
    have hpos := (W.rnd hr).pos
    have hc0 : 0 ≤ c := by
      rcases Int.lt_or_le c 0 with z | z
      · have := Int.mul_neg_of_pos_of_neg hpos z
        omega
      · exact z
    obtain ⟨m, rfl⟩ := Int.eq_ofNat_of_zero_le hc0
    constructor
    · rintro (h | ⟨y, hy, k, rfl⟩)
      · exact absurd h (hnf _ hx)
      · exact .inr ⟨y, hy, k + m, by push_cast; rw [Int.add_mul, hc, Int.mul_comm f.len]; omega⟩
    · rintro (h | ⟨y, hy, k, e⟩)
      · exact absurd h (hnf _ (by omega))
      · refine .inr ⟨y, hy, k - m, ?_⟩
        have hkm : m ≤ k := by
          have hy1 := (round_lt W hr hy).2
          have hs : startOf f = f.round.headD 0 := by unfold startOf; rw [if_pos hr]
          rcases Nat.lt_or_ge k m with z | z
          · exfalso
            obtain ⟨d, rfl⟩ : ∃ d, m = k + 1 + d := ⟨m - k - 1, by omega⟩
            have e1 : f.len * ((k + 1 + d : Nat) : Int) = (k : Int) * f.len + f.len + (d : Int) * f.len := by
              push_cast
              rw [Int.mul_add, Int.mul_add, Int.mul_one, Int.mul_comm f.len k, Int.mul_comm f.len d]
            have e3 : 0 ≤ (d : Int) * f.len := Int.mul_nonneg (by omega) (by omega)
            omega
          · exact z
        obtain ⟨d, rfl⟩ : ∃ d, k = m + d := ⟨k - m, by omega⟩
        rw [show m + d - m = d by omega]
        have : ((m + d : Nat) : Int) * f.len = f.len * (m : Int) + (d : Int) * f.len := by
          push_cast
          rw [Int.add_mul, Int.mul_comm f.len]
        omega
theorem filt_split (p : Int → Bool) : ∀ l : List Int, l.length = (l.filter p).length + (l.filter fun y => !p y).length
  | [] => rfl
  | x :: r => by
    have ih := filt_split p r
    cases h : p x <;> simp [h] <;> omega
theorem Per.shift {f : Form} {B W : Int} (p : Per f B W) (F : WF f) : ∀ i x, tk f i = some x → B ≤ x → tk f (i + (cnt f (B + W) - cnt f B)) = some (x + W) := by
  intro i x hx hB
  have hw := p.w1
  have key : ((allAhead f (x + 1)).filter fun y => decide (B ≤ y)).map (· + W) = (allAhead f (x + W + 1)).filter fun y => decide (B + W ≤ y) := by
    refine asc_ext ?_ ((all_asc F _).filter _) fun y => ?_
    · exact List.pairwise_map.mpr (((all_asc F _).filter _).imp fun {a b} h => by omega)
    · simp only [List.mem_map, List.mem_filter, all_mem F, decide_eq_true_eq]
      constructor
      · rintro ⟨z, ⟨⟨h1, h2⟩, h3⟩, rfl⟩
        exact ⟨⟨(p.per z h3).mp h1, by omega⟩, by omega⟩
      · rintro ⟨⟨h1, h2⟩, h3⟩
        refine ⟨y - W, ⟨⟨(p.per (y - W) (by omega)).mpr (by rw [show y - W + W = y by omega]; exact h1), by omega⟩, by omega⟩, by omega⟩
  have hlen : ∀ e B' : Int, B' ≤ e → ((allAhead f e).filter fun y => decide (B' ≤ y)).length = cnt f e - cnt f B' := fun e B' h => by
    have h1 := filt_split (fun y => decide (y < B')) (allAhead f e)
    rw [all_le F h, all_len, all_len] at h1
    have h2 : ((allAhead f e).filter fun y => !decide (y < B')) = (allAhead f e).filter fun y => decide (B' ≤ y) := List.filter_congr fun y _ => by
      by_cases hy : y < B'
      · rw [decide_eq_true hy, decide_eq_false (by omega)]; rfl
      · rw [decide_eq_false hy, decide_eq_true (by omega)]; rfl
    rw [h2] at h1
    omega
  have hl := congrArg List.length key
  rw [List.length_map, hlen _ _ (by omega), hlen _ _ (by omega)] at hl
  have hmono : ∀ a b : Int, a ≤ b → cnt f a ≤ cnt f b := fun a b h => by
    rcases Nat.lt_or_ge (cnt f b) (cnt f a) with z | z
    · exfalso
      obtain ⟨y, hy, hye⟩ := (cnt_spec F).mp z
      have := (cnt_spec F).mpr ⟨y, hy, show y < b by omega⟩
      omega
    · exact z
  have m1 := hmono B (x + 1) (by omega)
  have m2 := hmono (B + W) (x + W + 1) (by omega)
  have m3 := hmono B (B + W) (by omega)
  have hc1 : cnt f (x + 1) = i + 1 := by
    have a := (cnt_spec F).mpr ⟨x, hx, show x < x + 1 by omega⟩
    rcases Nat.lt_or_ge (i + 1) (cnt f (x + 1)) with z | z
    · obtain ⟨y, hy, hye⟩ := (cnt_spec F).mp z
      have := tk_mono F hx hy (by omega)
      omega
    · omega
  obtain ⟨j, hj⟩ := (p.per x hB).mp ⟨i, hx⟩
  have hc2 : cnt f (x + W + 1) = j + 1 := by
    have a := (cnt_spec F).mpr ⟨x + W, hj, show x + W < x + W + 1 by omega⟩
    rcases Nat.lt_or_ge (j + 1) (cnt f (x + W + 1)) with z | z
    · obtain ⟨y, hy, hye⟩ := (cnt_spec F).mp z
      have := tk_mono F hj hy (by omega)
      omega
    · omega
  rw [show i + (cnt f (B + W) - cnt f B) = j by omega]
  exact hj
theorem cnt_mono {f : Form} (F : WF f) {a b : Int} (h : a ≤ b) : cnt f a ≤ cnt f b := by
  rcases Nat.lt_or_ge (cnt f b) (cnt f a) with z | z
  · exfalso
    obtain ⟨y, hy, hye⟩ := (cnt_spec F).mp z
    have := (cnt_spec F).mpr ⟨y, hy, show y < b by omega⟩
    omega
  · exact z
/-- what goes round has a tick in each turn, if it has any behind the begin -/
theorem Per.ends {f : Form} {B W : Int} (p : Per f B W) (F : WF f) (hr : f.round = []) : ∀ x, tick f x → x < B := by
  intro x hx
  rcases Int.lt_or_le x B with z | z
  · exact z
  · exfalso
    have h2 := (p.mul z (startOf f).toNat).mp hx
    rw [tick_iff, hr] at h2
    have hm : x + ((startOf f).toNat : Int) * W ∈ f.front := by simpa using h2
    have h3 := front_start F hm
    have hs := start_nn F
    have := tick_nn F hx
    have hw := p.w1
    have : ((startOf f).toNat : Int) * 1 ≤ ((startOf f).toNat : Int) * W := Int.mul_le_mul_of_nonneg_left hw (by omega)
    omega
theorem Per.goes {f : Form} {B W : Int} (p : Per f B W) (F : WF f) (hr : f.round ≠ []) : ∃ x, tick f x ∧ B ≤ x ∧ x < B + W := by
  have hw := p.w1
  have hb := p.b0
  have hpos := (F.rnd hr).pos
  -- a tick behind B
  have h0 : tick f (f.round.headD 0 + (B.toNat : Int) * f.len) := tick_iff.mpr (.inr ⟨_, headD_mem hr, B.toNat, rfl⟩)
  have hnn := F.nn _ (List.mem_append_right _ (headD_mem hr))
  have h1 : (B.toNat : Int) * 1 ≤ (B.toNat : Int) * f.len := Int.mul_le_mul_of_nonneg_left (by omega) (by omega)
  have hxB : B ≤ f.round.headD 0 + (B.toNat : Int) * f.len := by omega
  generalize f.round.headD 0 + (B.toNat : Int) * f.len = x at *
  refine ⟨B + (x - B) % W, ?_, ?_, ?_⟩
  · have hk := Int.mul_ediv_add_emod (x - B) W
    have hq : 0 ≤ (x - B) / W := Int.ediv_nonneg (by omega) (by omega)
    have hm := Int.emod_nonneg (x - B) (show W ≠ 0 by omega)
    obtain ⟨k, hk2⟩ := Int.eq_ofNat_of_zero_le hq
    refine (p.mul (by omega) k).mpr ?_
    rw [hk2, Int.mul_comm] at hk
    rw [show B + (x - B) % W + (k : Int) * W = x by omega]
    exact h0
  · have := Int.emod_nonneg (x - B) (show W ≠ 0 by omega); omega
  · have := Int.emod_lt_of_pos (x - B) (show 0 < W by omega); omega
theorem min_start {f : Form} {B W : Int} (p : Per f B W) (F : WF f) (M : Min f) (hr : f.round ≠ []) : f.round.headD 0 < B + W := by
  rcases Int.lt_or_le (f.round.headD 0) (B + W) with z | z
  · exact z
  exfalso
  obtain ⟨y, ⟨iy, hy⟩, hyB, hyW⟩ := p.goes F hr
  have hn : 0 < f.round.length := List.length_pos_iff.mpr hr
  -- the front's last tick is behind B
  have hh : tk f f.front.length = some (f.round.headD 0) := by
    have := tk_round hr 0
    rw [Nat.add_zero, rt_head hr] at this
    exact this
  have hi : iy < f.front.length := (tk_lt F hy hh).mpr (by omega)
  have hne : f.front ≠ [] := fun q => by rw [q] at hi; cases hi
  have hF : f.front.length - 1 < f.front.length := by omega
  have hx : tk f (f.front.length - 1) = some (f.front.getLastD 0) := by
    rw [tk_front hF, lastD_eq hne, getD_eq hF]
    exact List.getElem?_eq_getElem hF
  have hxB : B ≤ f.front.getLastD 0 := by
    by_cases q : iy = f.front.length - 1
    · rw [q, hx] at hy
      cases hy
      exact hyB
    · have := tk_mono F hy hx (by omega)
      omega
  -- shifts by the turn
  generalize hs : cnt f (B + W) - cnt f B = s at *
  have sh := p.shift F
  rw [hs] at sh
  have s1 : 1 ≤ s := by
    rcases Nat.eq_zero_or_pos s with q | q
    · have := sh _ _ hx hxB
      rw [q, Nat.add_zero, hx] at this
      have hw := p.w1
      have := Option.some.inj this
      omega
    · exact q
  have a1 := sh _ _ hx hxB
  have hlast : tk f (f.front.length - 1 + f.round.length) = some (f.round.getLastD 0) := by
    rw [show f.front.length - 1 + f.round.length = f.front.length + (f.round.length - 1) by omega, tk_round hr, rt_lt (by omega), lastD_eq hr]
  have hlB : B ≤ f.round.getLastD 0 := by
    have := tk_mono F hx hlast (by omega)
    omega
  have a2 := sh _ _ hlast hlB
  have step : tk f (f.front.length - 1 + s + f.round.length) = some (f.front.getLastD 0 + W + f.len) := by
    have e1 : f.front.length - 1 + s = f.front.length + (s - 1) := by omega
    rw [e1, tk_round hr] at a1
    rw [show f.front.length - 1 + s + f.round.length = f.front.length + ((s - 1) + 1 * f.round.length) by omega, tk_round hr, rt_mul hr]
    rw [← Option.some.inj a1]
    simp
  rw [show f.front.length - 1 + f.round.length + s = f.front.length - 1 + s + f.round.length by omega, step] at a2
  have e3 : f.front.getLastD 0 + W + f.len = f.round.getLastD 0 + W := by
    exact Option.some.inj a2
  rcases M hr with q | q
  · exact hne q
  · exact q (by omega)
/-- .. so it isn't too late -/
theorem min_late {f : Form} {B W : Int} (p : Per f B W) (F : WF f) (M : Min f) (h : B + W ≤ 5041) : lateOf f ≤ 5040 := by
  have hw := p.w1
  by_cases hr : f.round = []
  · by_cases hf : f.front = []
    · unfold lateOf
      rw [hr, hf]
      decide
    · rw [lateOf_front hr hf]
      have := p.ends F hr _ (tick_iff.mpr (.inl (lastD_mem hf)))
      omega
  · rw [lateOf_round hr]
    have := min_start p F M hr
    omega
end TD

/-! dicts of ints, made of pairs; comprehensions whose turns make something. -/
namespace TD
open PySem PySem.Spec PyProof.Rows L2
/-- a dict made of pairs (an int, True) -/
def keysD (ns : List Int) : List (L2.Key × V) := mergeK [] (ns.map fun n => ((Sum.inl n : L2.Key), V.bl true))
theorem merge_has (n : Int) : ∀ (ms : List Int) (kvs : List (L2.Key × V)), (valV (mergeK kvs (ms.map fun n => ((Sum.inl n : L2.Key), V.bl true))) (Sum.inl n)).isSome = ((valV kvs (Sum.inl n)).isSome || decide (n ∈ ms))
  | [], kvs => by simp [mergeK]
  | m :: r, kvs => by
    have ih := merge_has n r (putK kvs (Sum.inl m) (V.bl true))
    show (valV (mergeK (putK kvs (Sum.inl m) (V.bl true)) (r.map fun n => ((Sum.inl n : L2.Key), V.bl true))) (Sum.inl n)).isSome = _
    rw [ih, valV_put]
    by_cases h : n = m
    · subst h
      simp
    · have h2 : ¬ (Sum.inl n : L2.Key) = Sum.inl m := fun z => h (Sum.inl.inj z)
      rw [if_neg h2]
      simp [h]
theorem keysD_has {ns : List Int} {n : Int} : (valV (keysD ns) (Sum.inl n)).isSome = decide (n ∈ ns) := by
  unfold keysD
  rw [merge_has]
  rfl
def rDictP (K : PySem.W.Frag) : List V → Hp → VK → Prop := fun xs H Q => ∃ (a : Addr) (ps : List Addr) (ns : List Int), xs = [.ref a] ∧ SqL K H a (ps.map V.ref) ∧ ps.length = ns.length ∧ (∀ (i : Nat) (p : Addr) (n : Int), ps[i]? = some p → ns[i]? = some n → SqT K H p [.int n, .bl true]) ∧
  ∀ p H2, H p = none → Ex H H2 → H2 p = some (.dK (keysD ns)) → Q (.ref p) H2
theorem paired_of {α β : Type} {F : α → β → Prop} : ∀ {l : List α} {r : List β}, l.length = r.length → (∀ (i : Nat) x y, l[i]? = some x → r[i]? = some y → F x y) → Paired F l r
  | [], [], _, _ => .nil
  | x :: l, y :: r, hl, h => .cons (h 0 x y rfl rfl) (paired_of (by simpa using hl) fun i a b h1 h2 => h (i + 1) a b h1 h2)
theorem dictPK {X : Cx} {K : PySem.W.Frag} (h : X.K = K) (hcalm : X.calm = true) : CallR X (.type "dict") (rDictP K) := by
  subst h
  intro pins s σ H xs us Q I r ⟨a, ps, ns, ex, hs, hl, hp, q⟩
  refine call_dictP hcalm pins s σ H xs us Q I r ⟨a, ps, ns.map fun n => ((Sum.inl n : L2.Key), V.bl true), ex, hs, paired_of (by rw [List.length_map]; exact hl) (fun i p kv h1 h2 => ?_), fun p np => q p _ np (Ex.new np) upd_same⟩
  rw [List.getElem?_map] at h2
  obtain ⟨n, hn, rfl⟩ := Option.map_eq_some_iff.mp h2
  exact hp i p n h1 hn
/-- tuples and more stay: what a comprehension's items may be told by -/
def Ext (D : Addr) (H H' : Hp) : Prop := ∀ a o, a ≠ D → H a = some o → H' a = some o
theorem Ex.ext {D : Addr} {H H' : Hp} (e : Ex H H') : Ext D H H' := fun a o _ h => e a o h
/-- a comprehension whose turns each give what is told by the item's number -/
theorem lc_each {J : It} {H1 : Hp} {n : Nat} {Y : Nat → V → Hp → Prop} {σ : L2.St} {vs : List Nat} {g : TG} {te : TE} {Q : Addr → Hp → Prop} (p : Nat → V → Hp → Prop) (hp : ∀ i y H H' D xs, H D = some (.lst xs) → H1 D = none → Ext D H H' → p i y H → (∀ xs', H' D = some (.lst xs') → p i y H')) (hw : Goes J H1 n Y) (hn : n ≤ 1000000)
    (turn : ∀ i x H', i < n → Ex H1 H' → Y i x H' → ∀ R : V → Hp → Prop, (∀ y H4, p i y H4 → Ex H' H4 → R y H4) → g x (wipe σ vs) H' fun σ2 H2 => wipe σ2 vs = wipe σ vs ∧ te σ2 H2 R)
    (q : ∀ a H2 xs, H1 a = none → Ex H1 H2 → xs.length = n → (∀ (i : Nat) (y : V), xs[i]? = some y → p i y H2) → H2 a = some (.lst xs) → Q a H2) : ∀ D, H1 D = none → ∃ W : Nat → Nat → Hp → Prop, (∃ m, W 0 m (upd H1 D (.lst []))) ∧ ∀ i m H, W i m H →
      (J.stop i H ∧ Q D H) ∨ (J.go i H ∧ ∃ Nx : Hp → Prop, (∀ H', Nx H' → ∃ m', m' < m ∧ W (i + 1) m' H') ∧ ∀ x H', J.yld i H x H' → g x (wipe σ vs) H' fun σ2 H2 => wipe σ2 vs = wipe σ vs ∧ tYes σ2 H2 fun b H3 =>
        if b = true then te σ2 H3 fun y H4 => ∃ acc, H4 D = some (.lst acc) ∧ acc.length < sizeLine ∧ Nx (upd H4 D (.lst (acc ++ [y]))) else Nx H3) := by
  intro D nD
  have stay : ∀ (acc : List V) (H H' : Hp) (a2 : List V), H D = some (.lst acc) → Ext D H H' → H' D = some (.lst a2) → (∀ i y, acc[i]? = some y → p i y H) → ∀ i y, acc[i]? = some y → p i y H' := fun acc H H' a2 h1 h2 h3 h4 i y hy => hp i y H H' D acc h1 nD h2 (h4 i y hy) a2 h3
  refine ⟨fun i m H => m = n - i ∧ i ≤ n ∧ Ex H1 H ∧ ∃ acc : List V, H D = some (.lst acc) ∧ acc.length = i ∧ ∀ j y, acc[j]? = some y → p j y H, ⟨n, by omega, Nat.zero_le _, Ex.new nD, [], upd_same, rfl, fun j y hy => (nomatch hy)⟩, ?_⟩
  rintro i m H ⟨rfl, hi, e, acc, hD, hl, hpa⟩
  by_cases h : i < n
  · refine .inr ⟨hw.go i H h e, fun H' => Ex H1 H' ∧ ∃ acc : List V, H' D = some (.lst acc) ∧ acc.length = i + 1 ∧ ∀ j y, acc[j]? = some y → p j y H', fun H' ⟨e', a', h', l', p'⟩ => ⟨n - (i + 1), by omega, rfl, h, e', a', h', l', p'⟩, fun x H' hy => ?_⟩
    obtain ⟨e1, y1⟩ := hw.yld i H x H' h e hy
    refine turn i x H' h (e.trans e1) y1 (fun y H4 => ∃ acc, H4 D = some (.lst acc) ∧ acc.length < sizeLine ∧ Ex H1 (upd H4 D (.lst (acc ++ [y]))) ∧ ∃ acc' : List V, (upd H4 D (.lst (acc ++ [y]))) D = some (.lst acc') ∧ acc'.length = i + 1 ∧ ∀ j z, acc'[j]? = some z → p j z (upd H4 D (.lst (acc ++ [y])))) fun y H4 hy e4 => ?_
    have e5 : Ex H1 H4 := (e.trans e1).trans e4
    have hD4 := (e1.trans e4) D _ hD
    have hx : Ext D H4 (upd H4 D (.lst (acc ++ [y]))) := fun a o ha ho => by rw [upd_ne ha]; exact ho
    have h4 := stay acc H H4 acc hD (e1.trans e4).ext hD4 hpa
    refine ⟨acc, hD4, Nat.lt_of_le_of_lt (Nat.le_of_eq hl) (Nat.lt_of_lt_of_le h (Nat.le_trans hn (by decide))), Ex.mut e5 nD, acc ++ [y], upd_same, by rw [List.length_append, hl]; rfl, fun j z hz => ?_⟩
    rw [List.getElem?_append] at hz
    by_cases hj : j < acc.length
    · rw [if_pos hj] at hz
      exact hp j z H4 _ D acc hD4 nD hx (h4 j z hz) _ upd_same
    · rw [if_neg hj] at hz
      have : j - acc.length = 0 := by
        rcases Nat.eq_zero_or_pos (j - acc.length) with w | w
        · exact w
        · rw [List.getElem?_eq_none (by simp; omega)] at hz; cases hz
      rw [this] at hz
      cases hz
      have hji : j = i := by omega
      subst hji
      exact hp j y H4 _ D acc hD4 nD hx hy _ upd_same
  · have hin : i = n := by omega
    subst hin
    exact .inl ⟨hw.stop H e, q D H acc nD e hl hpa hD⟩
/-- tuples told by their place -/
theorem tup_stays {n : Nat → List V} : ∀ (i : Nat) (y : V) (H H' : Hp) (D : Addr) (xs : List V), H D = some (.lst xs) → Ext D H H' → (∃ p, y = .ref p ∧ H p = some (.tup (n i))) → ∃ p, y = .ref p ∧ H' p = some (.tup (n i)) := fun i y H H' D xs hD e ⟨p, ey, hp⟩ =>
  ⟨p, ey, e p _ (fun z => by rw [z, hD] at hp; cases hp) hp⟩
theorem refs_of {H : Hp} {n : Nat → List V} {xs : List V} (h : ∀ (i : Nat) (y : V), xs[i]? = some y → ∃ p, y = .ref p ∧ H p = some (.tup (n i))) : ∃ ps : List Addr, xs = ps.map V.ref ∧ ∀ (i : Nat) (p : Addr), ps[i]? = some p → H p = some (.tup (n i)) := by
  induction xs generalizing n with
  | nil => exact ⟨[], rfl, fun i p hp => (nomatch hp)⟩
  | cons x r ih =>
    obtain ⟨p, rfl, hp⟩ := h 0 x rfl
    obtain ⟨ps, rfl, hps⟩ := ih (n := fun i => n (i + 1)) fun i y hy => h (i + 1) y hy
    refine ⟨p :: ps, rfl, fun i q hq => ?_⟩
    cases i with
    | zero => cases hq; exact hp
    | succ i => exact hps i q hq
end TD

/-! Ratios: what comes of some of a stock, levels, the first numbers; in plain Lean. -/
namespace TD
def red (x y : Int) : Int × Int := (x / gcdZ x y, y / gcdZ x y)
def prodR (a b : Int × Int) : Int × Int := red (a.1 * b.1) (a.2 * b.2)
def lessR (a b : Int × Int) : Bool := decide (a.1 * b.2 < b.1 * a.2)
def lexP (a b : Int × Int) : Prop := a.1 < b.1 ∨ (a.1 = b.1 ∧ a.2 < b.2)
instance lexP_dec (a b : Int × Int) : Decidable (lexP a b) := inferInstanceAs (Decidable (_ ∨ _))
def insR (x : Int × Int) : List (Int × Int) → List (Int × Int)
  | [] => [x]
  | y :: r => if lexP x y then x :: y :: r else if x = y then y :: r else y :: insR x r
def sortR (l : List (Int × Int)) : List (Int × Int) := l.foldr insR []
def madeR (st level : List (Int × Int)) (goal : Int × Int) : List (Int × Int) := level.flatMap fun one => (st.map (prodR one)).filter fun x => !lessR x goal
def levelR (st level : List (Int × Int)) (goal : Int × Int) : List (Int × Int) := sortR (madeR st level goal)
def levelN (st : List (Int × Int)) (goal : Int × Int) : Nat → List (Int × Int)
  | 0 => [(1, 1)]
  | k + 1 => levelR st (levelN st goal k) goal
theorem lexP_trans {a b c : Int × Int} (h : lexP a b) (k : lexP b c) : lexP a c := by
  unfold lexP at *
  omega
theorem lexP_irrefl {a : Int × Int} : ¬ lexP a a := by
  unfold lexP
  omega
theorem lexP_total {a b : Int × Int} (h : ¬ lexP a b) (k : a ≠ b) : lexP b a := by
  obtain ⟨a1, a2⟩ := a
  obtain ⟨b1, b2⟩ := b
  have k2 : a1 = b1 → a2 ≠ b2 := fun e1 e2 => k (by rw [e1, e2])
  unfold lexP at *
  simp only at *
  by_cases e : a1 = b1
  · have := k2 e
    omega
  · omega
theorem insR_mem {x y : Int × Int} : ∀ {l : List (Int × Int)}, y ∈ insR x l ↔ y = x ∨ y ∈ l
  | [] => by simp [insR]
  | z :: r => by
    unfold insR
    by_cases h : lexP x z
    · rw [if_pos h]
      simp
    · rw [if_neg h]
      by_cases h2 : x = z
      · rw [if_pos h2, h2]
        simp
      · rw [if_neg h2, List.mem_cons, insR_mem, List.mem_cons]
        constructor
        · rintro (h | h | h)
          · exact .inr (.inl h)
          · exact .inl h
          · exact .inr (.inr h)
        · rintro (h | h | h)
          · exact .inr (.inl h)
          · exact .inl h
          · exact .inr (.inr h)
theorem insR_asc {x : Int × Int} : ∀ {l : List (Int × Int)}, l.Pairwise lexP → (insR x l).Pairwise lexP
  | [], _ => by simp [insR]
  | z :: r, h => by
    have hz := List.pairwise_cons.mp h
    unfold insR
    by_cases c : lexP x z
    · rw [if_pos c]
      refine List.pairwise_cons.mpr ⟨fun y hy => ?_, h⟩
      rcases List.mem_cons.mp hy with rfl | hy
      · exact c
      · exact lexP_trans c (hz.1 y hy)
    · rw [if_neg c]
      by_cases c2 : x = z
      · rw [if_pos c2]
        exact h
      · rw [if_neg c2]
        refine List.pairwise_cons.mpr ⟨fun y hy => ?_, insR_asc hz.2⟩
        rcases insR_mem.mp hy with rfl | hy
        · exact lexP_total c c2
        · exact hz.1 y hy
theorem sortR_mem {y : Int × Int} : ∀ {l : List (Int × Int)}, y ∈ sortR l ↔ y ∈ l
  | [] => by simp [sortR]
  | x :: r => by
    show y ∈ insR x (sortR r) ↔ _
    rw [insR_mem, sortR_mem, List.mem_cons]
theorem sortR_asc : ∀ l : List (Int × Int), (sortR l).Pairwise lexP
  | [] => List.Pairwise.nil
  | x :: r => insR_asc (sortR_asc r)
theorem ascR_uniq : ∀ {l m : List (Int × Int)}, l.Pairwise lexP → m.Pairwise lexP → (∀ x, x ∈ l ↔ x ∈ m) → l = m
  | [], [], _, _, _ => rfl
  | [], y :: m, _, _, h => by simpa using (h y).mpr List.mem_cons_self
  | x :: l, [], _, _, h => by simpa using (h x).mp List.mem_cons_self
  | x :: l, y :: m, hl, hm, h => by
    have a := List.pairwise_cons.mp hl
    have b := List.pairwise_cons.mp hm
    have e : x = y := by
      rcases List.mem_cons.mp ((h x).mp List.mem_cons_self) with e | hx
      · exact e
      · rcases List.mem_cons.mp ((h y).mpr List.mem_cons_self) with e | hy
        · exact e.symm
        · exact absurd (lexP_trans (a.1 y hy) (b.1 x hx)) lexP_irrefl
    subst e
    refine congrArg (x :: ·) (ascR_uniq a.2 b.2 fun z => ⟨fun hz => ?_, fun hz => ?_⟩)
    · rcases List.mem_cons.mp ((h z).mp (List.mem_cons_of_mem _ hz)) with e | q
      · rw [e] at hz
        exact absurd (a.1 _ hz) lexP_irrefl
      · exact q
    · rcases List.mem_cons.mp ((h z).mpr (List.mem_cons_of_mem _ hz)) with e | q
      · rw [e] at hz
        exact absurd (b.1 _ hz) lexP_irrefl
      · exact q
theorem ascR_nodup {l : List (Int × Int)} (h : l.Pairwise lexP) : l.Nodup := h.imp fun {a b} q e => by
  rw [e] at q
  exact lexP_irrefl q
theorem levelN_asc {st : List (Int × Int)} {goal : Int × Int} : ∀ k, (levelN st goal k).Pairwise lexP
  | 0 => List.pairwise_singleton _ _
  | k + 1 => sortR_asc _
theorem madeR_mem {st level : List (Int × Int)} {goal x : Int × Int} : x ∈ madeR st level goal ↔ ∃ one ∈ level, ∃ r ∈ st, x = prodR one r ∧ lessR x goal = false := by
  unfold madeR
  simp only [List.mem_flatMap, List.mem_filter, List.mem_map, Bool.not_eq_true']
  constructor
  · rintro ⟨one, h1, ⟨r, h2, rfl⟩, h3⟩
    exact ⟨one, h1, r, h2, rfl, h3⟩
  · rintro ⟨one, h1, r, h2, rfl, h3⟩
    exact ⟨one, h1, ⟨r, h2, rfl⟩, h3⟩

/-! ### what comes of some of a stock -/
def rAt (st : List (Int × Int)) (n : Nat) : Int × Int := st.getD n (1, 2)
def topR (st : List (Int × Int)) : List Nat → Int
  | [] => 1
  | n :: r => (rAt st n).1 * topR st r
def botR (st : List (Int × Int)) : List Nat → Int
  | [] => 1
  | n :: r => (rAt st n).2 * botR st r
def valR (st : List (Int × Int)) (ns : List Nat) : Int × Int := red (topR st ns) (botR st ns)
def GoodR (r : Int × Int) : Prop := 1 ≤ r.1 ∧ 2 * r.1 ≤ r.2 ∧ r.2 ≤ 12
structure GoalOk (g : Int × Int) : Prop where
  lo : 1 ≤ g.1
  le : g.1 ≤ g.2
  hi : g.2 ≤ 5000
theorem gcdR_pos {x y : Int} (h : 0 < x) : 0 < gcdZ x y := by
  unfold gcdZ
  have := Int.gcd_pos_of_ne_zero_left y (show x ≠ 0 by omega)
  omega
theorem gcdR_dvd (a b : Int) : gcdZ a b ∣ a ∧ gcdZ a b ∣ b := ⟨Int.gcd_dvd_left .., Int.gcd_dvd_right ..⟩
theorem red_scale {g x y : Int} (hg : 0 < g) : red (g * x) (g * y) = red x y := by
  have e : gcdZ (g * x) (g * y) = g * gcdZ x y := by
    unfold gcdZ
    rw [Int.gcd_mul_left]
    obtain ⟨k, rfl⟩ := Int.eq_ofNat_of_zero_le (show 0 ≤ g by omega)
    rw [Int.natAbs_natCast]
    push_cast
    rfl
  unfold red
  rw [e, Int.mul_ediv_mul_of_pos _ _ hg, Int.mul_ediv_mul_of_pos _ _ hg]
/-- a fraction and its reduced one -/
theorem red_parts {x y : Int} (hx : 0 < x) : ∃ g : Int, 0 < g ∧ x = g * (red x y).1 ∧ y = g * (red x y).2 := by
  have h := gcdR_dvd x y
  refine ⟨gcdZ x y, gcdR_pos hx, ?_, ?_⟩
  · exact (Int.mul_ediv_cancel' h.1).symm
  · exact (Int.mul_ediv_cancel' h.2).symm
section
variable {st : List (Int × Int)} (S : ∀ r ∈ st, GoodR r)
include S
theorem rAt_good (n : Nat) : GoodR (rAt st n) := by
  unfold rAt
  rw [List.getD_eq_getElem?_getD]
  cases h : st[n]? with
  | none => exact ⟨by decide, by decide, by decide⟩
  | some r => exact S r (List.mem_of_getElem? h)
theorem topR_pos : ∀ ns, 1 ≤ topR st ns
  | [] => by show (1 : Int) ≤ 1; decide
  | n :: r => by
    have h := (rAt_good S n).1
    have k := topR_pos r
    have : (1 : Int) * 1 ≤ (rAt st n).1 * topR st r := Int.mul_le_mul h k (by decide) (by omega)
    show 1 ≤ (rAt st n).1 * topR st r
    omega
theorem botR_lo : ∀ ns, (2 : Int) ^ ns.length * topR st ns ≤ botR st ns
  | [] => by show (2 : Int) ^ 0 * 1 ≤ 1; decide
  | n :: r => by
    have h := rAt_good S n
    have k := botR_lo r
    have t := topR_pos S r
    have p : (0 : Int) ≤ 2 ^ r.length * topR st r := Int.mul_nonneg (Int.pow_nonneg (by decide)) (by omega)
    have : (2 * (rAt st n).1) * ((2 : Int) ^ r.length * topR st r) ≤ (rAt st n).2 * botR st r := Int.mul_le_mul h.2.1 k p (by have := h.1; have := h.2.1; omega)
    show (2 : Int) ^ (r.length + 1) * ((rAt st n).1 * topR st r) ≤ (rAt st n).2 * botR st r
    refine Int.le_trans (Int.le_of_eq ?_) this
    rw [Int.pow_succ]
    simp only [Int.mul_assoc, Int.mul_left_comm, Int.mul_comm]
theorem botR_pos (ns) : 1 ≤ botR st ns := by
  have h := botR_lo S ns
  have t := topR_pos S ns
  have p : (1 : Int) ≤ 2 ^ ns.length := Int.pow_pos (by decide)
  have : (1 : Int) * 1 ≤ 2 ^ ns.length * topR st ns := Int.mul_le_mul p t (by decide) (by omega)
  omega
theorem botR_hi : ∀ ns, botR st ns ≤ 12 ^ ns.length
  | [] => by show (1 : Int) ≤ 12 ^ 0; decide
  | n :: r => by
    have h := rAt_good S n
    have k := botR_hi r
    have t := botR_pos S r
    have : (rAt st n).2 * botR st r ≤ 12 * 12 ^ r.length := Int.mul_le_mul h.2.2 k (by omega) (by decide)
    show (rAt st n).2 * botR st r ≤ 12 ^ (r.length + 1)
    rw [Int.pow_succ, Int.mul_comm]
    rw [Int.mul_comm] at this
    omega
theorem val_parts (ns) : ∃ g : Int, 0 < g ∧ topR st ns = g * (valR st ns).1 ∧ botR st ns = g * (valR st ns).2 := red_parts (by have := topR_pos S ns; omega)
theorem prod_val (n : Nat) (ns) : prodR (valR st ns) (rAt st n) = valR st (n :: ns) := by
  obtain ⟨g, hg, h1, h2⟩ := val_parts S ns
  show red _ _ = red ((rAt st n).1 * topR st ns) ((rAt st n).2 * botR st ns)
  rw [h1, h2, Int.mul_left_comm, Int.mul_left_comm (rAt st n).2, red_scale hg, Int.mul_comm, Int.mul_comm (valR st ns).2]
theorem less_val (ns) (goal : Int × Int) : lessR (valR st ns) goal = decide (topR st ns * goal.2 < goal.1 * botR st ns) := by
  obtain ⟨g, hg, h1, h2⟩ := val_parts S ns
  unfold lessR
  rw [h1, h2, Int.mul_assoc, Int.mul_left_comm goal.1]
  refine decide_eq_decide.mpr ⟨fun h => Int.mul_lt_mul_of_pos_left h hg, fun h => ?_⟩
  exact Int.lt_of_mul_lt_mul_left h (by omega)
theorem val_pos (ns) : 1 ≤ (valR st ns).1 ∧ (valR st ns).1 ≤ (valR st ns).2 ∧ (valR st ns).2 ≤ 12 ^ ns.length := by
  obtain ⟨g, hg, h1, h2⟩ := val_parts S ns
  have t := topR_pos S ns
  have b := botR_lo S ns
  have hi := botR_hi S ns
  have p1 : 0 < (valR st ns).1 := by
    rcases Int.lt_or_le 0 (valR st ns).1 with z | z
    · exact z
    · have : g * (valR st ns).1 ≤ g * 0 := Int.mul_le_mul_of_nonneg_left z (by omega)
      omega
  have p : (1 : Int) ≤ 2 ^ ns.length := Int.pow_pos (by decide)
  have tb : topR st ns ≤ botR st ns := by
    have : (1 : Int) * topR st ns ≤ 2 ^ ns.length * topR st ns := Int.mul_le_mul_of_nonneg_right p (by omega)
    omega
  rw [h1, h2] at tb
  have le := Int.le_of_mul_le_mul_left tb hg
  refine ⟨by omega, le, ?_⟩
  have : 1 * (valR st ns).2 ≤ g * (valR st ns).2 := Int.mul_le_mul_of_nonneg_right (by omega) (by omega)
  omega
theorem val_coprime (ns) : Int.gcd (valR st ns).1 (valR st ns).2 = 1 := by
  have t := topR_pos S ns
  have hp : 0 < Int.gcd (topR st ns) (botR st ns) := Int.gcd_pos_of_ne_zero_left _ (by omega)
  exact Int.gcd_ediv_gcd_ediv_gcd hp
/-- the common divisor of a product is small -/
theorem prod_gcd (ns) {r : Int × Int} (hr : GoodR r) : gcdZ ((valR st ns).1 * r.1) ((valR st ns).2 * r.2) ≤ 144 ∧ 0 < gcdZ ((valR st ns).1 * r.1) ((valR st ns).2 * r.2) := by
  have c := val_coprime S ns
  obtain ⟨p1, p2, _⟩ := val_pos S ns
  obtain ⟨r1, r2, r3⟩ := hr
  generalize (valR st ns).1 = a at *
  generalize (valR st ns).2 = b at *
  refine ⟨?_, gcdR_pos (Int.mul_pos (by omega) (by omega))⟩
  obtain ⟨a, rfl⟩ := Int.eq_ofNat_of_zero_le (show 0 ≤ a by omega)
  obtain ⟨b, rfl⟩ := Int.eq_ofNat_of_zero_le (show 0 ≤ b by omega)
  obtain ⟨x, y⟩ := r
  simp only at *
  obtain ⟨p, rfl⟩ := Int.eq_ofNat_of_zero_le (show 0 ≤ x by omega)
  obtain ⟨q, rfl⟩ := Int.eq_ofNat_of_zero_le (show 0 ≤ y by omega)
  have c : Nat.Coprime a b := c
  have e : gcdZ ((a : Int) * (p : Int)) ((b : Int) * (q : Int)) = ((Nat.gcd (a * p) (b * q) : Nat) : Int) := by
    rw [← Int.natCast_mul, ← Int.natCast_mul]
    rfl
  rw [e]
  have d1 : Nat.gcd (a * p) (b * q) ∣ Nat.gcd (a * p) b * Nat.gcd (a * p) q := Nat.gcd_mul_right_dvd_mul_gcd _ _ _
  have d2 : Nat.gcd (a * p) b = Nat.gcd p b := Nat.Coprime.gcd_mul_left_cancel p c
  have d3 : Nat.gcd p b ≤ p := Nat.gcd_le_left b (by omega)
  have d4 : Nat.gcd (a * p) q ≤ q := Nat.gcd_le_right _ (by omega)
  have d5 : 0 < Nat.gcd (a * p) b := Nat.gcd_pos_of_pos_right _ (by omega)
  have d6 : 0 < Nat.gcd (a * p) q := Nat.gcd_pos_of_pos_right _ (by omega)
  have h := Nat.le_of_dvd (Nat.mul_pos d5 d6) d1
  rw [d2] at h
  have h2 : Nat.gcd p b * Nat.gcd (a * p) q ≤ 12 * 12 := Nat.mul_le_mul (by omega) (by omega)
  omega
end
/-! ### no less than a goal -/
def geV (st : List (Int × Int)) (goal : Int × Int) (ns : List Nat) : Prop := goal.1 * botR st ns ≤ topR st ns * goal.2
section
variable {st : List (Int × Int)} (S : ∀ r ∈ st, GoodR r) {goal : Int × Int} (G : GoalOk goal)
include S
theorem less_ge (ns) : lessR (valR st ns) goal = false ↔ geV st goal ns := by
  rw [less_val S, decide_eq_false_iff_not]
  unfold geV
  omega
include G
theorem ge_mono {n : Nat} {ns} (h : geV st goal (n :: ns)) : geV st goal ns := by
  have r := rAt_good S n
  have t := topR_pos S ns
  have b := botR_pos S ns
  have g1 := G.lo
  have g2 := G.le
  unfold geV at *
  have h : goal.1 * ((rAt st n).2 * botR st ns) ≤ ((rAt st n).1 * topR st ns) * goal.2 := h
  have hp : (rAt st n).1 ≤ (rAt st n).2 := by have := r.1; have := r.2.1; omega
  have k : (rAt st n).1 * (topR st ns * goal.2) ≤ (rAt st n).2 * (topR st ns * goal.2) := Int.mul_le_mul_of_nonneg_right hp (Int.mul_nonneg (by omega) (by omega))
  rw [Int.mul_assoc] at h
  rw [Int.mul_left_comm] at h
  exact Int.le_of_mul_le_mul_left (Int.le_trans h k) (by have := r.1; omega)
theorem ge_app {ns ms} (h : geV st goal (ns ++ ms)) : geV st goal ms := by
  induction ns with
  | nil => exact h
  | cons n r ih => exact ih (ge_mono S G h)
theorem ge_len {ns} (h : geV st goal ns) : ns.length ≤ 12 := by
  rcases Nat.lt_or_ge 12 ns.length with z | z
  · have t := topR_pos S ns
    have b := botR_lo S ns
    have p : (2 : Int) ^ 13 ≤ 2 ^ ns.length := by
      have := Nat.pow_le_pow_right (show 0 < 2 by decide) (show 13 ≤ ns.length from z)
      exact_mod_cast this
    have b2 : (2 : Int) ^ 13 * topR st ns ≤ botR st ns := Int.le_trans (Int.mul_le_mul_of_nonneg_right p (by omega)) b
    unfold geV at h
    have g1 := G.lo
    have g2 := G.hi
    have h1 : 1 * botR st ns ≤ goal.1 * botR st ns := Int.mul_le_mul_of_nonneg_right g1 (by have := botR_pos S ns; omega)
    have h2 : topR st ns * goal.2 ≤ topR st ns * 5000 := Int.mul_le_mul_of_nonneg_left g2 (by omega)
    omega
  · exact z
omit S in
theorem ge_nil : geV st goal [] := by
  have := G.le
  show goal.1 * 1 ≤ 1 * goal.2
  omega
theorem levelN_mem : ∀ (k : Nat) (x : Int × Int), x ∈ levelN st goal k ↔ ∃ ns : List Nat, ns.length = k ∧ (∀ n ∈ ns, n < st.length) ∧ geV st goal ns ∧ x = valR st ns
  | 0, x => by
    have e1 : gcdZ 1 1 = 1 := rfl
    have e : valR st [] = (1, 1) := by
      show red 1 1 = _
      rfl
    show x ∈ [((1 : Int), (1 : Int))] ↔ _
    rw [List.mem_singleton]
    constructor
    · rintro rfl
      exact ⟨[], rfl, fun n hn => (nomatch hn), ge_nil G, e.symm⟩
    · rintro ⟨ns, h, _, _, rfl⟩
      rw [List.eq_nil_of_length_eq_zero h, e]
  | k + 1, x => by
    show x ∈ sortR _ ↔ _
    rw [sortR_mem, madeR_mem]
    constructor
    · rintro ⟨one, h1, r, hr, rfl, hl⟩
      obtain ⟨ns, h2, h3, h4, rfl⟩ := (levelN_mem k one).mp h1
      obtain ⟨n, hn, rfl⟩ := List.mem_iff_getElem.mp hr
      have e : rAt st n = st[n] := by
        unfold rAt
        rw [List.getD_eq_getElem?_getD, List.getElem?_eq_getElem hn]
        rfl
      have e2 := prod_val S n ns
      rw [e] at e2
      rw [e2] at hl ⊢
      refine ⟨n :: ns, by rw [List.length_cons, h2], fun m hm => ?_, (less_ge S _).mp hl, rfl⟩
      rcases List.mem_cons.mp hm with rfl | hm
      · exact hn
      · exact h3 m hm
    · rintro ⟨ns, h1, h2, h3, rfl⟩
      cases ns with
      | nil => cases h1
      | cons n ns =>
        have hn : n < st.length := h2 n List.mem_cons_self
        have e : rAt st n = st[n] := by
          unfold rAt
          rw [List.getD_eq_getElem?_getD, List.getElem?_eq_getElem hn]
          rfl
        refine ⟨valR st ns, (levelN_mem k _).mpr ⟨ns, by simpa using h1, fun m hm => h2 m (List.mem_cons_of_mem _ hm), ge_mono S G h3, rfl⟩, st[n], List.getElem_mem hn, ?_, (less_ge S _).mpr h3⟩
        rw [← e, prod_val S]
theorem levelN_end {k : Nat} (h : 13 ≤ k) : levelN st goal k = [] := by
  refine List.eq_nil_iff_forall_not_mem.mpr fun x hx => ?_
  obtain ⟨ns, h1, _, h3, _⟩ := (levelN_mem S G k x).mp hx
  have := ge_len S G h3
  omega
/-- a level's ratios -/
theorem levelN_good {k : Nat} {x : Int × Int} (h : x ∈ levelN st goal k) : 1 ≤ x.1 ∧ x.1 ≤ x.2 ∧ x.2 ≤ 12 ^ 12 ∧ ∀ r, GoodR r → gcdZ (x.1 * r.1) (x.2 * r.2) ≤ 144 ∧ 0 < gcdZ (x.1 * r.1) (x.2 * r.2) := by
  obtain ⟨ns, h1, _, h3, rfl⟩ := (levelN_mem S G k x).mp h
  obtain ⟨p1, p2, p3⟩ := val_pos S ns
  have hl := ge_len S G h3
  have : (12 : Int) ^ ns.length ≤ 12 ^ 12 := by
    have := Nat.pow_le_pow_right (show 0 < 12 by decide) hl
    exact_mod_cast this
  exact ⟨p1, p2, Int.le_trans p3 this, fun r hr => prod_gcd S ns hr⟩
end
/-! ### the first numbers -/
def firstN (st : List (Int × Int)) (goal : Int × Int) : Nat → Nat → (Int × Int) → Option (List Nat)
  | 0, _, a => if a = goal then some [] else none
  | m + 1, b, a => (List.range' b (st.length - b)).findSome? fun n => if lessR (prodR a (rAt st n)) goal then none else (firstN st goal m n (prodR a (rAt st n))).map (n :: ·)
def waysF (st : List (Int × Int)) (goal : Int × Int) : Nat → Nat → (Int × Int) → List (List Nat × (Int × Int))
  | 0, _, a => [([], a)]
  | m + 1, b, a => (List.range' b (st.length - b)).flatMap fun n => if lessR (prodR a (rAt st n)) goal then [] else (waysF st goal m n (prodR a (rAt st n))).map fun w => (n :: w.1, w.2)
def stepW (st : List (Int × Int)) (goal : Int × Int) (L : List (List Nat × (Int × Int))) : List (List Nat × (Int × Int)) :=
  L.flatMap fun w => (List.range' (w.1.getLastD 0) (st.length - w.1.getLastD 0)).filterMap fun n => if lessR (prodR w.2 (rAt st n)) goal then none else some (w.1 ++ [n], prodR w.2 (rAt st n))
def bfsW (st : List (Int × Int)) (goal : Int × Int) : Nat → List (List Nat × (Int × Int))
  | 0 => [([], (1, 1))]
  | k + 1 => stepW st goal (bfsW st goal k)
def hitW (goal : Int × Int) (w : List Nat × (Int × Int)) : Bool := decide (w.2 = goal)
theorem find_flat {α β : Type} {p : β → Bool} {f : α → List β} : ∀ l : List α, (l.flatMap f).find? p = l.findSome? fun x => (f x).find? p
  | [] => rfl
  | x :: r => by
    rw [List.flatMap_cons, List.find?_append, List.findSome?_cons, find_flat r]
    cases h : (f x).find? p <;> rfl
theorem firstN_eq {st : List (Int × Int)} {goal : Int × Int} : ∀ (m b : Nat) (a : Int × Int), firstN st goal m b a = ((waysF st goal m b a).find? (hitW goal)).map (·.1)
  | 0, b, a => by
    unfold firstN waysF hitW
    by_cases h : a = goal
    · simp [h]
    · simp [h]
  | m + 1, b, a => by
    unfold firstN waysF
    rw [find_flat]
    generalize List.range' b (st.length - b) = l
    induction l with
    | nil => rfl
    | cons n r ih =>
      rw [List.findSome?_cons, List.findSome?_cons]
      by_cases h : lessR (prodR a (rAt st n)) goal
      · rw [if_pos h, if_pos h]
        exact ih
      · have e : (hitW goal ∘ fun w : List Nat × (Int × Int) => (n :: w.1, w.2)) = hitW goal := rfl
        rw [if_neg h, if_neg h, firstN_eq m n, List.find?_map, e]
        cases hx : (waysF st goal m n (prodR a (rAt st n))).find? (hitW goal) with
        | none => exact ih
        | some w => rfl
theorem bfs_go {st : List (Int × Int)} {goal : Int × Int} : ∀ (k : Nat) (L : List (List Nat × (Int × Int))), Nat.repeat (stepW st goal) k L = L.flatMap fun w => (waysF st goal k (w.1.getLastD 0) w.2).map fun u => (w.1 ++ u.1, u.2)
  | 0, L => by
    show L = _
    induction L with
    | nil => rfl
    | cons w r ih =>
      rw [List.flatMap_cons, ← ih]
      simp [waysF]
  | k + 1, L => by
    have e : Nat.repeat (stepW st goal) (k + 1) L = Nat.repeat (stepW st goal) k (stepW st goal L) := by
      clear bfs_go
      induction k with
      | zero => rfl
      | succ k ih =>
        show stepW st goal (Nat.repeat (stepW st goal) (k + 1) L) = _
        rw [ih]
        rfl
    rw [e, bfs_go k]
    unfold stepW
    rw [List.flatMap_assoc]
    refine congrArg (fun f => L.flatMap f) (funext fun w => ?_)
    have w1 : ∀ b a, waysF st goal (k + 1) b a = (List.range' b (st.length - b)).flatMap fun n => if lessR (prodR a (rAt st n)) goal then [] else (waysF st goal k n (prodR a (rAt st n))).map fun w => (n :: w.1, w.2) := fun _ _ => rfl
    rw [w1]
    generalize List.range' (w.1.getLastD 0) (st.length - w.1.getLastD 0) = l
    induction l with
    | nil => rfl
    | cons n r ih =>
      rw [List.flatMap_cons, List.map_append, ← ih]
      by_cases h : lessR (prodR w.2 (rAt st n)) goal
      · rw [List.filterMap_cons_none (by rw [if_pos h]), if_pos h]
        rfl
      · rw [List.filterMap_cons_some (b := (w.1 ++ [n], prodR w.2 (rAt st n))) (by rw [if_neg h]), if_neg h, List.flatMap_cons]
        congr 1
        rw [List.map_map]
        have el : (w.1 ++ [n]).getLastD 0 = n := by simp
        show List.map _ (waysF st goal k ((w.1 ++ [n]).getLastD 0) _) = _
        rw [el]
        refine List.map_congr_left fun u _ => ?_
        show (w.1 ++ [n] ++ u.1, u.2) = (w.1 ++ (n :: u.1), u.2)
        rw [List.append_assoc]
        rfl
theorem bfs_eq {st : List (Int × Int)} {goal : Int × Int} (k : Nat) : bfsW st goal k = waysF st goal k 0 (1, 1) := by
  have e : bfsW st goal k = Nat.repeat (stepW st goal) k [([], (1, 1))] := by
    induction k with
    | zero => rfl
    | succ k ih =>
      show stepW st goal (bfsW st goal k) = stepW st goal _
      rw [ih]
  rw [e, bfs_go, List.flatMap_cons]
  simp
/-! ### in rising order -/
theorem topR_perm {st : List (Int × Int)} {ns ms : List Nat} (h : ns.Perm ms) : topR st ns = topR st ms := by
  induction h with
  | nil => rfl
  | cons x _ ih => show _ * _ = _ * _; rw [ih]
  | swap x y l => show _ * (_ * _) = _ * (_ * _); rw [Int.mul_left_comm]
  | trans _ _ a b => exact a.trans b
theorem botR_perm {st : List (Int × Int)} {ns ms : List Nat} (h : ns.Perm ms) : botR st ns = botR st ms := by
  induction h with
  | nil => rfl
  | cons x _ ih => show _ * _ = _ * _; rw [ih]
  | swap x y l => show _ * (_ * _) = _ * (_ * _); rw [Int.mul_left_comm]
  | trans _ _ a b => exact a.trans b
theorem valR_perm {st : List (Int × Int)} {ns ms : List Nat} (h : ns.Perm ms) : valR st ns = valR st ms := by
  unfold valR
  rw [topR_perm h, botR_perm h]
theorem ge_perm {st : List (Int × Int)} {goal : Int × Int} {ns ms : List Nat} (h : ns.Perm ms) (k : geV st goal ns) : geV st goal ms := by
  unfold geV at *
  rw [topR_perm h, botR_perm h] at k
  exact k
theorem rise_of (ns : List Nat) : ∃ ms : List Nat, ms.Perm ns ∧ ms.Pairwise (· ≤ ·) := by
  refine ⟨ns.mergeSort (fun a b => decide (a ≤ b)), List.mergeSort_perm _ _, ?_⟩
  have := List.pairwise_mergeSort (le := fun (a b : Nat) => decide (a ≤ b)) (fun a b c h1 h2 => by simp at *; omega) (fun a b => by simp; omega) ns
  exact this.imp fun {a b} h => of_decide_eq_true h
section
variable {st : List (Int × Int)} (S : ∀ r ∈ st, GoodR r) {goal : Int × Int} (G : GoalOk goal)
include S G
theorem ways_has : ∀ (ms pre : List Nat) (b : Nat), ms.Pairwise (· ≤ ·) → (∀ n ∈ ms, b ≤ n ∧ n < st.length) → geV st goal (ms ++ pre) → (ms, valR st (ms ++ pre)) ∈ waysF st goal ms.length b (valR st pre)
  | [], pre, b, _, _, _ => by
    show _ ∈ [_]
    exact List.mem_singleton.mpr rfl
  | n :: r, pre, b, hp, hb, hg => by
    have hn := hb n List.mem_cons_self
    have pc := List.pairwise_cons.mp hp
    have hperm : (n :: r ++ pre).Perm (r ++ n :: pre) := List.perm_middle.symm
    have hg2 := ge_perm hperm hg
    have ih := ways_has r (n :: pre) n pc.2 (fun m hm => ⟨pc.1 m hm, (hb m (List.mem_cons_of_mem _ hm)).2⟩) hg2
    show _ ∈ List.flatMap _ _
    refine List.mem_flatMap.mpr ⟨n, List.mem_range'.mpr ⟨n - b, by omega, by omega⟩, ?_⟩
    rw [prod_val S, if_neg (by rw [(less_ge S (goal := goal) _).mpr (ge_app S G hg2)]; exact Bool.false_ne_true)]
    refine List.mem_map.mpr ⟨_, ih, ?_⟩
    rw [valR_perm hperm]
/-- a level's ratios come of rising numbers -/
theorem level_ways {k : Nat} {x : Int × Int} (h : x ∈ levelN st goal k) : ∃ w ∈ waysF st goal k 0 (1, 1), w.2 = x := by
  obtain ⟨ns, h1, h2, h3, rfl⟩ := (levelN_mem S G k x).mp h
  obtain ⟨ms, hp, hr⟩ := rise_of ns
  have e0 : valR st [] = (1, 1) := by
    show red 1 1 = _
    rfl
  have hm := ways_has S G ms [] 0 hr (fun n hn => ⟨Nat.zero_le _, h2 n (hp.mem_iff.mp hn)⟩) (by rw [List.append_nil]; exact ge_perm hp.symm h3)
  rw [List.append_nil, hp.length_eq, h1, e0] at hm
  exact ⟨(ms, valR st ms), hm, valR_perm hp⟩
/-- so the first numbers are found -/
theorem first_found {k : Nat} (h : goal ∈ levelN st goal k) : ∃ ns w, firstN st goal k 0 (1, 1) = some ns ∧ ((bfsW st goal k).filter (hitW goal)).map (·.1) = ns :: w := by
  obtain ⟨w, hw, e⟩ := level_ways S G h
  rw [firstN_eq, bfs_eq, ← List.head?_filter]
  cases hf : (waysF st goal k 0 (1, 1)).filter (hitW goal) with
  | nil =>
    have : w ∈ (waysF st goal k 0 (1, 1)).filter (hitW goal) := List.mem_filter.mpr ⟨hw, decide_eq_true e⟩
    rw [hf] at this
    cases this
  | cons u r => exact ⟨_, _, rfl, rfl⟩
end
/-! ### how many -/
theorem sum_pows {x : Nat} : ∀ e, ((List.range (e + 1)).map fun i => x ^ i).sum ≤ (x + 1) ^ e
  | 0 => by simp
  | e + 1 => by
    rw [List.range_succ, List.map_append, List.sum_append]
    have ih := sum_pows (x := x) e
    have h1 : x ^ (e + 1) ≤ x * (x + 1) ^ e := by
      rw [Nat.pow_succ, Nat.mul_comm]
      exact Nat.mul_le_mul_left _ (Nat.pow_le_pow_left (Nat.le_succ _) _)
    have h2 : (x + 1) ^ (e + 1) = x * (x + 1) ^ e + (x + 1) ^ e := by
      rw [Nat.pow_succ, Nat.mul_comm, Nat.add_mul, Nat.one_mul]
    simp only [List.map_cons, List.map_nil, List.sum_cons, List.sum_nil]
    omega
theorem flat_len {α : Type} {f : Nat → List α} {x : Nat} {N : Nat} (h : ∀ n, n < N → (f n).length ≤ x ^ (N - n - 1)) : ∀ (d b : Nat), b + d = N → ((List.range' b d).flatMap f).length ≤ ((List.range d).map fun i => x ^ i).sum
  | 0, b, _ => by simp
  | d + 1, b, hb => by
    rw [List.range'_succ, List.flatMap_cons, List.length_append, List.range_succ, List.map_append, List.sum_append]
    have ih := flat_len h d (b + 1) (by omega)
    have := h b (by omega)
    rw [show N - b - 1 = d by omega] at this
    simp only [List.map_cons, List.map_nil, List.sum_cons, List.sum_nil]
    omega
theorem ways_len {st : List (Int × Int)} {goal : Int × Int} : ∀ (m b : Nat) (a : Int × Int), b < st.length → (waysF st goal m b a).length ≤ (m + 1) ^ (st.length - b - 1)
  | 0, b, a, h => by
    rw [Nat.zero_add, Nat.one_pow]
    exact Nat.le_refl 1
  | m + 1, b, a, h => by
    unfold waysF
    refine Nat.le_trans (flat_len (N := st.length) (x := m + 1) (fun n hn => ?_) (st.length - b) b (by omega)) ?_
    · by_cases c : lessR (prodR a (rAt st n)) goal
      · rw [if_pos c]
        exact Nat.zero_le _
      · rw [if_neg c, List.length_map]
        exact ways_len m n _ hn
    · have := sum_pows (x := m + 1) (st.length - b - 1)
      rw [show st.length - b - 1 + 1 = st.length - b by omega] at this
      exact this
theorem ways_many {st : List (Int × Int)} {goal : Int × Int} {m : Nat} {a : Int × Int} (h1 : 1 ≤ st.length) (h2 : st.length ≤ 5) (hm : m ≤ 13) : (waysF st goal m 0 a).length ≤ 38416 := by
  refine Nat.le_trans (ways_len m 0 a (by omega)) ?_
  have h3 : (m + 1) ^ (st.length - 0 - 1) ≤ 14 ^ (st.length - 0 - 1) := Nat.pow_le_pow_left (by omega) _
  have h4 : 14 ^ (st.length - 0 - 1) ≤ 14 ^ 4 := Nat.pow_le_pow_right (by decide) (by omega)
  have : (14 : Nat) ^ 4 = 38416 := by decide
  omega
theorem nodup_sub {α : Type} [DecidableEq α] : ∀ {l m : List α}, l.Nodup → (∀ x ∈ l, x ∈ m) → l.length ≤ m.length
  | [], m, _, _ => Nat.zero_le _
  | x :: l, m, hn, h => by
    have c := List.nodup_cons.mp hn
    have hx := h x List.mem_cons_self
    have ih := nodup_sub (l := l) (m := m.erase x) c.2 fun y hy => (List.mem_erase_of_ne (fun e => c.1 (by rw [← e]; exact hy))).mpr (h y (List.mem_cons_of_mem _ hy))
    rw [List.length_erase_of_mem hx] at ih
    have := List.length_pos_of_mem hx
    rw [List.length_cons]
    omega
theorem level_many {st : List (Int × Int)} (S : ∀ r ∈ st, GoodR r) {goal : Int × Int} (G : GoalOk goal) (h1 : 1 ≤ st.length) (h2 : st.length ≤ 5) (k : Nat) : (levelN st goal k).length ≤ 38416 := by
  rcases Nat.lt_or_ge k 13 with hk | hk
  · have : (levelN st goal k).length ≤ ((waysF st goal k 0 (1, 1)).map (·.2)).length := nodup_sub (ascR_nodup (levelN_asc k)) fun x hx => by
      obtain ⟨w, hw, e⟩ := level_ways S G hx
      exact List.mem_map.mpr ⟨w, hw, e⟩
    rw [List.length_map] at this
    exact Nat.le_trans this (ways_many h1 h2 (by omega))
  · rw [levelN_end S G hk]
    exact Nat.zero_le _
/-! ### papers -/
def paperB (st : List (Int × Int)) (goal : Int × Int) : List (List (Int × Int)) → List (Int × Int) → Bool
  | [], _ => true
  | told :: r, level => decide (told = level) && !decide (goal ∈ level) && paperB st goal r (levelR st level goal)
/-- the first so many levels -/
def paperN (st : List (Int × Int)) (goal : Int × Int) (k : Nat) : List (List (Int × Int)) := (List.range k).map (levelN st goal)
theorem paper_true {st : List (Int × Int)} {goal : Int × Int} : ∀ (k j : Nat), (∀ i, j ≤ i → i < j + k → goal ∉ levelN st goal i) → paperB st goal ((List.range' j k).map (levelN st goal)) (levelN st goal j) = true
  | 0, j, _ => rfl
  | k + 1, j, h => by
    rw [List.range'_succ, List.map_cons]
    show (decide _ && !decide _ && _) = true
    rw [decide_eq_true rfl, decide_eq_false (h j (Nat.le_refl _) (by omega))]
    exact paper_true k (j + 1) fun i h1 h2 => h i (by omega) (by omega)
end TD

/-! Pairs of ints: a dict of them, sorted. -/
namespace TD
open PySem PySem.Spec PyProof.Rows L2
def prV (r : Int × Int) : List V := [.int r.1, .int r.2]
/-- pairs stand at these places -/
def PairsAt (H : Hp) : List Addr → List (Int × Int) → Prop := Paired fun p r => H p = some (.tup (prV r))
theorem PairsAt.ext {H H' : Hp} {as : List Addr} {rs : List (Int × Int)} (h : PairsAt H as rs) (e : Ex H H') : PairsAt H' as rs := Paired.mapP h fun _ _ q => e _ _ q
theorem PairsAt.len {H : Hp} {as : List Addr} {rs : List (Int × Int)} (h : PairsAt H as rs) : as.length = rs.length := Paired.length h
def kR (r : Int × Int) : List L2.Key := [Sum.inl r.1, Sum.inl r.2]
theorem kR_inj {a b : Int × Int} (h : kR a = kR b) : a = b := by
  obtain ⟨a1, a2⟩ := a
  obtain ⟨b1, b2⟩ := b
  unfold kR at h
  simp only [List.cons.injEq, Sum.inl.injEq, and_true] at h
  rw [h.1, h.2]
def entR (r : Int × Int) : List L2.Key × V := (kR r, .bl true)
def addR (ks : List (Int × Int)) (r : Int × Int) : List (Int × Int) := if r ∈ ks then ks else ks ++ [r]
theorem addR_mem {ks : List (Int × Int)} {r x : Int × Int} : x ∈ addR ks r ↔ x ∈ ks ∨ x = r := by
  unfold addR
  by_cases h : r ∈ ks
  · rw [if_pos h]
    constructor
    · exact .inl
    · rintro (h | rfl)
      · exact h
      · exact h
  · rw [if_neg h, List.mem_append, List.mem_singleton]
theorem addR_nodup {ks : List (Int × Int)} {r : Int × Int} (h : ks.Nodup) : (addR ks r).Nodup := by
  unfold addR
  by_cases c : r ∈ ks
  · rw [if_pos c]
    exact h
  · rw [if_neg c]
    refine List.nodup_append.mpr ⟨h, by simp, fun a ha b hb e => ?_⟩
    rw [List.mem_singleton] at hb
    rw [e, hb] at ha
    exact c ha
theorem valR_ent {ks : List (Int × Int)} {r : Int × Int} : valV (ks.map entR) (kR r) = if r ∈ ks then some (.bl true) else none := by
  induction ks with
  | nil => rfl
  | cons x t ih =>
    by_cases e : x = r
    · subst e
      rw [if_pos List.mem_cons_self]
      unfold valV
      rw [List.map_cons, List.find?_cons_of_pos (by exact decide_eq_true rfl)]
      rfl
    · have e2 : ¬ kR x = kR r := fun z => e (kR_inj z)
      have : valV ((x :: t).map entR) (kR r) = valV (t.map entR) (kR r) := by
        have e3 : decide ((entR x).1 = kR r) = false := decide_eq_false e2
        unfold valV
        rw [List.map_cons, List.find?_cons, e3]
      rw [this, ih]
      have : r ∈ x :: t ↔ r ∈ t := by
        rw [List.mem_cons]
        constructor
        · rintro (h | h)
          · exact absurd h.symm e
          · exact h
        · exact .inr
      by_cases c : r ∈ t
      · rw [if_pos c, if_pos (this.mpr c)]
      · rw [if_neg c, if_neg (fun z => c (this.mp z))]
theorem putR {ks : List (Int × Int)} {r : Int × Int} : putK (ks.map entR) (kR r) (.bl true) = (addR ks r).map entR := by
  by_cases c : r ∈ ks
  · have hv := valR_ent (ks := ks) (r := r)
    rw [if_pos c] at hv
    unfold addR putK
    have ha : ((ks.map entR).any fun kv => decide (kv.1 = kR r)) = true := List.any_eq_true.mpr ⟨entR r, List.mem_map.mpr ⟨r, c, rfl⟩, decide_eq_true rfl⟩
    rw [if_pos c, if_pos ha, List.map_map]
    refine List.map_congr_left fun x _ => ?_
    show (if kR x = kR r then (kR x, V.bl true) else entR x) = entR x
    by_cases e : kR x = kR r
    · rw [if_pos e]
      rfl
    · rw [if_neg e]
  · have hv := valR_ent (ks := ks) (r := r)
    rw [if_neg c] at hv
    rw [putK_new _ hv]
    unfold addR
    rw [if_neg c, List.map_append]
    rfl
/-- what a place holds as a pair -/
def pairOf (H : Hp) : V → Int × Int
  | .ref a => match H a with
    | some (.tup [.int x, .int y]) => (x, y)
    | _ => (0, 0)
  | _ => (0, 0)
theorem pairOf_at {H : Hp} {a : Addr} {r : Int × Int} (h : H a = some (.tup (prV r))) : pairOf H (.ref a) = r := by
  unfold pairOf prV at *
  simp only [h]
def rSortDT : List V → Hp → VK → Prop := fun vs H Q => ∃ (d : Addr) (ks : List (Int × Int)), vs = [V.ref d] ∧ H d = some (.dT (ks.map entR)) ∧ ks.Nodup ∧ ks.length ≤ 1000000 ∧
  ∀ p H2 as, H p = none → Ex H H2 → H2 p = some (.lst (as.map V.ref)) → PairsAt H2 as (sortR ks) → Q (.ref p) H2
def addrOf : Value → Addr
  | .ref a => a
  | _ => 0
theorem sortDT {X : Cx} (hc : X.calm = true) : CallR X (.builtin "sorted") rSortDT := by
  intro pins s σ H xs us Q I r h
  obtain ⟨d, ks, rfl, hd, hn, hz, q⟩ := h
  obtain ⟨u, rfl, rx⟩ := r.one
  cases rx
  obtain ⟨z, hs, xs, pr, o, es, ep, ho, hx, hdt, he, hnd⟩ := (show ObjOk X.prog X.w H s.heap d (.dT (ks.map entR)) from I.hok d _ hd)
  have l1 : es.size = xs.length := size_of_entries he
  have l2 : (ks.map entR).length = xs.length := Paired.length pr
  rw [List.length_map] at l2
  have hsz : es.size ≤ sizeLine := by rw [sizeLine_eq]; omega
  refine Calls.call_function_entry kind_sorted plain_sorted entry_sorted (args_sorted1 _) ?_
  unfold Builtin.«sorted»
  refine wpAny_bind (m := checkCount "sorted" 1 1 _) (wpAny_pure ?_)
  refine wpAny_bind (PySem.W.kdu_collect (A := X.A.in1) (kdl_raw hs hx hdt) (I.ok.hd hc) ho hsz fun h' tk acc hk hacc => ?_)
  have ea : acc.toList = xs.map fun x => Value.ref x.2.1 := by
    have hl : acc.toList.length = xs.length := by rw [Array.length_toList, hacc.1]; exact l1
    apply List.ext_getElem?
    intro j
    rw [List.getElem?_map]
    cases hj : acc.toList[j]? with
    | none =>
      have h1 := List.getElem?_eq_none_iff.mp hj
      rw [List.getElem?_eq_none (by omega)]
      all_goals rfl
    | some v =>
      obtain ⟨en, hen, hv⟩ := hacc.2 j v (by rw [← Array.getElem?_toList]; exact hj)
      have qe := entry_at he j
      rw [hen] at qe
      cases hb : xs[j]? with
      | none =>
        rw [hb] at qe
        exact nomatch (show some en = none from qe)
      | some b =>
        rw [hb] at qe
        have e2 : en = entryOfKey (tupleKind (mixKind X.prog X.w)) b := Option.some.inj qe
        rw [hv, e2]
        all_goals rfl
  have hal : acc.toList.length = ks.length := by rw [ea, List.length_map, l2]
  -- each key's tuple, and what they are together
  have key : ∀ {l : List (Int × Int)} {ys : List (List L2.Key × Addr × Value)}, Paired (fun (p : List L2.Key × V) (q : List L2.Key × Addr × Value) => p.1 = q.1 ∧ H q.2.1 = some (.tup (p.1.map kV)) ∧ RelV p.2 q.2.2) (l.map entR) ys →
      (ys.map fun x => pairOf H (backV (Value.ref x.2.1))) = l ∧ ∀ x ∈ ys, H x.2.1 = some (.tup (prV (pairOf H (backV (Value.ref x.2.1))))) := by
    intro l
    induction l with
    | nil =>
      intro ys h
      cases h
      exact ⟨rfl, fun x hx => (nomatch hx)⟩
    | cons r t ih =>
      intro ys h
      rw [List.map_cons] at h
      cases h with
      | @cons _ y _ yt h1 h2 =>
        have hy : H y.2.1 = some (.tup (prV r)) := h1.2.1
        have e : pairOf H (backV (Value.ref y.2.1)) = r := pairOf_at hy
        obtain ⟨i1, i2⟩ := ih h2
        refine ⟨by rw [List.map_cons, e, i1], fun x hx => ?_⟩
        rcases List.mem_cons.mp hx with rfl | hx
        · rw [e]
          exact hy
        · exact i2 x hx
  obtain ⟨kk1, kk2⟩ := key pr
  have hmap : acc.toList.map (fun v => pairOf H (backV v)) = ks := by
    rw [ea, List.map_map]
    exact kk1
  have href : ∀ v ∈ acc.toList, ∃ a, v = Value.ref a ∧ H a = some (.tup (prV (pairOf H (backV v)))) := fun v hv => by
    rw [ea] at hv
    obtain ⟨x, hx, rfl⟩ := List.mem_map.mp hv
    exact ⟨_, rfl, kk2 x hx⟩
  have I1 : Inv X pins σ H { s with heap := h', toks := tk } := I.kept hk
  refine wpAny_bind (wpAny_newList ?_ (by rw [hal, sizeLine_eq]; omega))
  have hoL : (h'.push (seqObj "list" acc.toList.toArray 0)).get? h'.objs.size = some (seqObj "list" acc.toList.toArray 0) := Heap.get?_push_size _ rfl
  show wpAny _ _ _ _ _ { s with heap := h'.push (seqObj "list" acc.toList.toArray 0), toks := tk }
  have hpair : ∀ v ∈ acc.toList, Srt.IsPair (h'.push (seqObj "list" acc.toList.toArray 0)) v (pairOf H (backV v)).1 (pairOf H (backV v)).2 := fun v hv => by
    obtain ⟨a, rfl, ha⟩ := href v hv
    obtain ⟨_, its2, r2, o2, ho2, hc2, n2, hd2⟩ := I1.hok _ _ ha
    obtain ⟨u1, u2, rfl, ri, rj⟩ := vals2 r2
    obtain ⟨t1, rfl⟩ := ri
    obtain ⟨t2, rfl⟩ := rj
    exact ⟨a, o2, t1, t2, n2, rfl, Heap.get?_push_of_some _ ho2, hc2, hd2⟩
  refine wpAny_bind (wpAny_holding (wpAny_call_entry slot_list_sort ⟨_, hoL, rfl⟩ entry_list_sort
    (SrtO.list_sort_ord (s := { s with heap := h'.push (seqObj "list" acc.toList.toArray 0), toks := tk }) (SrtO.swo_lex fun v => pairOf H (backV v)) hoL (by rw [hal, sizeLine_eq]; omega)
      (fun h2 => SrtO.pairs_sortableO (by omega) hpair fun o2 e2 c2 => ?_) fun out h1 h2 => ⟨_, rfl, ?_⟩) (args_list_sort _)))
  · rw [hoL] at e2
    cases e2
    exact absurd (Value.type.inj c2) (by decide)
  · obtain ⟨e', he'⟩ := sortedHeap_at (vs := acc.toList) (out := out.toArray) hoL
    have perm := h2.perm
    have hout : ∀ v ∈ out, ∃ a, v = Value.ref a ∧ H a = some (.tup (prV (pairOf H (backV v)))) := fun v hv => href v (perm.mem_iff.mp hv)
    have ePerm : (out.map fun v => pairOf H (backV v)).Perm ks := by
      rw [← hmap]
      exact perm.map _
    have eSort : (out.map fun v => pairOf H (backV v)) = sortR ks := by
      refine ascR_uniq ?_ (sortR_asc ks) fun x => by rw [ePerm.mem_iff, sortR_mem]
      have hnd2 : (out.map fun v => pairOf H (backV v)).Nodup := ePerm.nodup_iff.mpr hn
      have hsrt : (out.map fun v => pairOf H (backV v)).Pairwise fun x y => SrtO.lexB y x = false := List.pairwise_map.mpr h1
      refine (hsrt.and hnd2).imp fun {a b} ⟨q1, q2⟩ => ?_
      have := SrtO.lexB_no.mp q1
      exact lexP_total (show ¬ lexP b a from this) (Ne.symm q2)
    have eBack : out.map backV = (out.map addrOf).map V.ref := by
      rw [List.map_map]
      refine List.map_congr_left fun v hv => ?_
      obtain ⟨a, rfl, _⟩ := hout v hv
      rfl
    have hpa : PairsAt H (out.map addrOf) (sortR ks) := by
      rw [← eSort]
      clear eSort ePerm eBack he' h1 h2 perm
      induction out with
      | nil => exact .nil
      | cons v r ih =>
        obtain ⟨a, rfl, ha⟩ := hout v List.mem_cons_self
        exact .cons ha (ih fun w hw => hout w (List.mem_cons_of_mem _ hw))
    have hlen : ((out.map addrOf).map V.ref).length ≤ sizeLine := by
      rw [List.length_map, List.length_map, perm.length_eq, hal, sizeLine_eq]
      omega
    have hv3 : Vals ((out.map addrOf).map V.ref) out := by
      rw [← eBack]
      exact vals_back fun v hv => let ⟨a, e, _⟩ := hout v hv; ⟨a, e⟩
    have hnone : H h'.objs.size = none := I1.hok.fresh (Nat.le_refl _)
    refine wpAny_pure ⟨_, rfl, .ref h'.objs.size, upd H h'.objs.size (.lst ((out.map addrOf).map V.ref)), I1.laid (t' := tk) (fun b u e => ?_) (Nat.le_refl _)
      (show ObjOk X.prog X.w _ _ _ (.lst ((out.map addrOf).map V.ref)) from ⟨hlen, out, e', hv3, he'⟩), rfl, q _ _ (out.map addrOf) hnone (Ex.new hnone) upd_same (hpa.ext (Ex.new hnone))⟩
    have hb : b < h'.objs.size := Heap.lt_size e
    show (sortedHeap _ _ _ _).get? b = some u
    rw [sortedHeap_old (Nat.ne_of_lt hb) (by rw [size_push']; exact Nat.lt_succ_of_lt hb)]
    exact Heap.get?_push_of_some _ e
end TD
namespace TD
open PySem PySem.Spec PyProof.Rows L2
theorem room65 {k : Nat} {A : Around} (h : Room k A) : A.units + 65 < cLine := by
  have := h.un
  omega
theorem inDK {X : Cx} {K : PySem.W.Frag} (h : X.K = K) (hu : X.A.units + 65 < cLine) : OpR X (compareOp .In) (rInD K) := by subst h; exact op_inD hu
theorem niDK {X : Cx} {K : PySem.W.Frag} (h : X.K = K) (hu : X.A.units + 65 < cLine) : OpR X (compareOp .NotIn) (rNotInD K) := by subst h; exact op_notInD hu
end TD

/-! A comprehension whose turns each make something that is not the comprehension's own list. -/
namespace TD
open PySem PySem.Spec PyProof.Rows L2
theorem lc_eachD {J : It} {H1 : Hp} {n : Nat} {Y : Nat → V → Hp → Prop} {σ : L2.St} {vs : List Nat} {g : TG} {te : TE} {Q : Addr → Hp → Prop} (p : Addr → Nat → V → Hp → Prop)
    (hp : ∀ D i y H H' xs xs', H D = some (.lst xs) → Ext D H H' → H' D = some (.lst xs') → p D i y H → p D i y H') (hw : Goes J H1 n Y) (hn : n ≤ 1000000)
    (turn : ∀ D i x H' acc, i < n → Ex H1 H' → H1 D = none → H' D = some (.lst acc) → Y i x H' → ∀ R : V → Hp → Prop, (∀ y H4, p D i y H4 → Ex H' H4 → R y H4) → g x (wipe σ vs) H' fun σ2 H2 => wipe σ2 vs = wipe σ vs ∧ te σ2 H2 R)
    (q : ∀ D H2 xs, H1 D = none → Ex H1 H2 → xs.length = n → (∀ (i : Nat) (y : V), xs[i]? = some y → p D i y H2) → H2 D = some (.lst xs) → Q D H2) : ∀ D, H1 D = none → ∃ W : Nat → Nat → Hp → Prop, (∃ m, W 0 m (upd H1 D (.lst []))) ∧ ∀ i m H, W i m H →
      (J.stop i H ∧ Q D H) ∨ (J.go i H ∧ ∃ Nx : Hp → Prop, (∀ H', Nx H' → ∃ m', m' < m ∧ W (i + 1) m' H') ∧ ∀ x H', J.yld i H x H' → g x (wipe σ vs) H' fun σ2 H2 => wipe σ2 vs = wipe σ vs ∧ tYes σ2 H2 fun b H3 =>
        if b = true then te σ2 H3 fun y H4 => ∃ acc, H4 D = some (.lst acc) ∧ acc.length < sizeLine ∧ Nx (upd H4 D (.lst (acc ++ [y]))) else Nx H3) := by
  intro D nD
  refine ⟨fun i m H => m = n - i ∧ i ≤ n ∧ Ex H1 H ∧ ∃ acc : List V, H D = some (.lst acc) ∧ acc.length = i ∧ ∀ j y, acc[j]? = some y → p D j y H, ⟨n, by omega, Nat.zero_le _, Ex.new nD, [], upd_same, rfl, fun j y hy => (nomatch hy)⟩, ?_⟩
  rintro i m H ⟨rfl, hi, e, acc, hD, hl, hpa⟩
  by_cases h : i < n
  · refine .inr ⟨hw.go i H h e, fun H' => Ex H1 H' ∧ ∃ acc : List V, H' D = some (.lst acc) ∧ acc.length = i + 1 ∧ ∀ j y, acc[j]? = some y → p D j y H', fun H' ⟨e', a', h', l', p'⟩ => ⟨n - (i + 1), by omega, rfl, h, e', a', h', l', p'⟩, fun x H' hy => ?_⟩
    obtain ⟨e1, y1⟩ := hw.yld i H x H' h e hy
    refine turn D i x H' acc h (e.trans e1) nD (e1 _ _ hD) y1 (fun y H4 => ∃ acc, H4 D = some (.lst acc) ∧ acc.length < sizeLine ∧ Ex H1 (upd H4 D (.lst (acc ++ [y]))) ∧ ∃ acc' : List V, (upd H4 D (.lst (acc ++ [y]))) D = some (.lst acc') ∧ acc'.length = i + 1 ∧ ∀ j z, acc'[j]? = some z → p D j z (upd H4 D (.lst (acc ++ [y])))) fun y H4 hy e4 => ?_
    have e5 : Ex H1 H4 := (e.trans e1).trans e4
    have hD4 := (e1.trans e4) D _ hD
    have hx : Ext D H4 (upd H4 D (.lst (acc ++ [y]))) := fun a o ha ho => by rw [upd_ne ha]; exact ho
    have h4 : ∀ j z, acc[j]? = some z → p D j z H4 := fun j z hz => hp D j z H H4 acc acc hD (e1.trans e4).ext hD4 (hpa j z hz)
    refine ⟨acc, hD4, Nat.lt_of_le_of_lt (Nat.le_of_eq hl) (Nat.lt_of_lt_of_le h (Nat.le_trans hn (by decide))), Ex.mut e5 nD, acc ++ [y], upd_same, by rw [List.length_append, hl]; rfl, fun j z hz => ?_⟩
    rw [List.getElem?_append] at hz
    by_cases hj : j < acc.length
    · rw [if_pos hj] at hz
      exact hp D j z H4 _ acc _ hD4 hx upd_same (h4 j z hz)
    · rw [if_neg hj] at hz
      have : j - acc.length = 0 := by
        rcases Nat.eq_zero_or_pos (j - acc.length) with w | w
        · exact w
        · rw [List.getElem?_eq_none (by simp; omega)] at hz; cases hz
      rw [this] at hz
      cases hz
      have hji : j = i := by omega
      subst hji
      exact hp D j y H4 _ acc _ hD4 hx upd_same hy
  · have hin : i = n := by omega
    subst hin
    exact .inl ⟨hw.stop H e, q D H acc nD e hl hpa hD⟩
theorem sqT_extD {K : PySem.W.Frag} {D : Addr} {H H' : Hp} {a : Addr} {xs ys : List V} (h : SqT K H a xs) (hD : H D = some (.lst ys)) (e : Ext D H H') : SqT K H' a xs := by
  rcases h with (h | ⟨ob, h⟩) | h
  · exact .inl (.inl (e _ _ (fun z => by rw [z, hD] at h; cases h) h))
  · exact .inl (.inr ⟨ob, e _ _ (fun z => by rw [z, hD] at h; cases h) h⟩)
  · exact .inr h
end TD

/-! A lambda with one default number, handed to a def. -/
namespace TD
open PySem PySem.Spec PyProof.Rows L2 LamX
section
variable {X : Cx} {pins : List (Addr × Obj)} {σ : L2.St} {H : Hp} {s : Shared}
theorem lam_make3 {T : List (Addr × Str)} {c P : Addr} {params : Arguments} {body : Expr} {scope : Scope} {pos : Pos} {n : Int} {j : Nat} {cp : Pos} {E : Value → Shared → Prop} {Q : Value → Shared → Prop} (I : Inv X pins σ H s) (TB : TabB X.base X.mg c P) (hcode : X.env.code = .ref c)
    (hm : (P, X.env.qual ++ "<lambda>") ∈ T) (hu : ∀ p ∈ T, p.1 = P → p.2 = X.env.qual ++ "<lambda>") (hT : Tabs T H) (hd : params.defaults = [.Constant (.int n) j cp]) (hk0 : params.kw_defaults = []) (hfree : ∀ y ∈ scope.names, y.2 = .free → ∃ c, X.env.cells.lookup y.1 = some c)
    (hE : X.xe = E)
    (h : ∀ (f c' D : Addr) (td : Tok) (pm ctv doc : Value) (H1 : Hp) (s' : Shared), Inv X pins σ H1 s' → ExtN H H1 → Tabs T H1 →
      s'.heap.get? f = some (PySem.W.kdv_obj "<lambda>" (X.env.qual ++ "<lambda>") params (.expr body) scope (cloFrom X.env.cells scope.names []) (.ref D) doc pm c' ctv) → s'.heap.get? D = some (PySem.W.kdv_tup [.int n td]) →
      H1 f = none → f ∉ frs X.stack → H1 D = none → D ∉ frs X.stack → H1 c' = some (CodeO c' (X.env.qual ++ "<lambda>")) → Q (.ref f) s') :
    wpAny (model X.prog X.w) X.A (eval (.Lambda params body scope pos) X.env) Q E s := by
  refine PySem.W.kdv_lam (by rw [hd] <;> rfl) hk0 ?_
  rw [hd]
  subst hE
  refine PySem.W.kdv_all1 (thn ((pe_int (X := X)).run pins s σ H (fun v H1 => v = .int n ∧ H1 = H) I ⟨rfl, rfl⟩) fun u s1 ⟨v, H1, I1, r1, e1, e2⟩ => PySem.W.kdv_all0 ?_)
  subst e1 e2
  obtain ⟨td, rfl⟩ := r1
  rw [PySem.makeFunction_eq]
  simp only [List.zip_nil_right, List.filterMap_nil, List.isEmpty_nil, if_true, pure_bind, List.isEmpty_cons, Bool.false_eq_true, if_false]
  refine wpAny_bind (wpAny_newTextTuple ?_)
  have I2 : Inv X pins σ H1 { s1 with heap := s1.heap.push (PySem.W.kdv_tup [.int n td]) } := I1.kept (t' := s1.toks) fun b o e => Heap.get?_push_of_some _ e
  obtain ⟨ps, hP, ht, ha⟩ := hT _ hm
  have bP := TB.bm.keeps I2.bk
  have hP' : (s1.heap.push (PySem.W.kdv_tup [.int n td])).get? P = some { cls := .none, data := .fields ps } := I2.hok P _ hP
  have nofr : ∀ f, s1.heap.objs.size ≤ f → f ∉ frs X.stack := fun f hf z => by
    rcases List.mem_cons.mp (I1.stkSub _ z) with e | e
    · have h1 := I1.lt
      rw [← e] at h1
      exact Nat.lt_irrefl _ (Nat.lt_of_lt_of_le h1 hf)
    · exact I1.nofs hf e
  have hDg : (s1.heap.push (PySem.W.kdv_tup [.int n td])).get? s1.heap.objs.size = some (PySem.W.kdv_tup [.int n td]) := Heap.get?_push_size _ rfl
  have nD : H1 s1.heap.objs.size = none := I1.hok.fresh (Nat.le_refl _)
  have nDP : s1.heap.objs.size ≠ P := fun z => by
    rw [z, hP] at nD
    cases nD
  have hs2 : (s1.heap.push (PySem.W.kdv_tup [.int n td])).objs.size = s1.heap.objs.size + 1 := by rw [Heap.size_push]
  cases hc : codeAmong pos ps.toList with
  | none =>
    refine PySem.W.kdv_makeTail (mg := X.mg) (c := c) (P := P) (ps := ps) (closure_ok hfree) I2.ok.glob (I2.mod.glob.keeps I2.bk) hcode (TB.code.keeps I2.bk) hP' ht hc TB.gP bP fun c' ctv doc h' tk hx hge hlt hrec htb => ?_
    obtain ⟨c2, oc, vs, t, e2, hoc, hd2, hv⟩ := hrec
    cases e2
    have hge1 : s1.heap.objs.size + 1 ≤ c' := by rw [← hs2]; exact hge
    have hsz : (s1.heap.push (PySem.W.kdv_tup [.int n td])).objs.size ≤ h'.objs.size := Nat.le_trans hge (Nat.le_of_lt hlt)
    have nC : H1 c' = none := I2.hok.fresh hge
    have I3 := inv_table (t' := tk) (more := #[rawInt pos.line, rawInt pos.col, .ref c']) (h' := h'.push (PySem.W.kdv_obj "<lambda>" (X.env.qual ++ "<lambda>") params (.expr body) scope (cloFrom X.env.cells scope.names []) (.ref s1.heap.objs.size) doc ((X.mg "__name__").getD .none) c' ctv)) I2 hP
      (fun b o hb e => Heap.get?_push_of_some _ (hx b o hb e)) (Heap.get?_push_of_some _ htb) hge ⟨oc, vs, t, Heap.get?_push_of_some _ hoc, hd2, hv⟩
    have hE : ExtN H1 (upd (upd H1 P (.tbl (ps ++ #[rawInt pos.line, rawInt pos.col, .ref c']))) c' (CodeO c' (X.env.qual ++ "<lambda>"))) := fun b o e n => by
      rw [upd_ne (ne_of_none e nC), upd_ne (fun z => n ps (Option.some.inj (e.symm.trans (by rw [z]; exact hP))))]
      exact e
    have eL : (ps ++ #[rawInt pos.line, rawInt pos.col, .ref c']).toList = ps.toList ++ [rawInt pos.line, rawInt pos.col, .ref c'] := by simp
    refine h h'.objs.size c' s1.heap.objs.size td ((X.mg "__name__").getD .none) ctv doc _ _ I3 hE (fun p hp => ?_) (Heap.get?_push_size _ rfl) (Heap.get?_push_of_some _ (hx _ _ nDP hDg)) ?_ (nofr _ (by omega)) ?_ (nofr _ (Nat.le_refl _)) upd_same
    · by_cases hb : p.1 = P
      · rw [hu p hp hb, hb]
        refine ⟨_, by rw [upd_ne (ne_of_none hP nC), upd_same], by rw [eL]; exact PySem.TriplesOk_snoc _ _ _ _ ht, fun p' cv hcv => ?_⟩
        rw [eL] at hcv
        rcases among_app _ ht hcv with z | z
        · obtain ⟨c0, e1, e2⟩ := ha p' cv z
          exact ⟨c0, e1, hE _ _ e2 codeO_ne⟩
        · exact ⟨c', z, upd_same⟩
      · obtain ⟨ps', a1, a2, a3⟩ := hT p hp
        refine ⟨ps', by rw [upd_ne (ne_of_none a1 nC), upd_ne hb]; exact a1, a2, fun p' cv hcv => ?_⟩
        obtain ⟨c0, e1, e2⟩ := a3 p' cv hcv
        exact ⟨c0, e1, hE _ _ e2 codeO_ne⟩
    · have n1 : h'.objs.size ≠ c' := Nat.ne_of_gt hlt
      have n2 : h'.objs.size ≠ P := Nat.ne_of_gt (Nat.lt_of_lt_of_le (Heap.lt_size hP') hsz)
      rw [upd_ne n1, upd_ne n2]
      exact I2.hok.fresh hsz
    · have n1 : s1.heap.objs.size ≠ c' := by omega
      rw [upd_ne n1, upd_ne nDP]
      exact nD
  | some cv =>
    obtain ⟨c', e, hco⟩ := ha pos cv hc
    subst e
    refine PySem.W.kdv_makeTailHit (mg := X.mg) (c := c) (P := P) (ps := ps) (closure_ok hfree) I2.ok.glob (I2.mod.glob.keeps I2.bk) hcode (TB.code.keeps I2.bk) hP' ht hc bP fun ctv doc h' tk hx hsz => ?_
    have I3 : Inv X pins σ H1 { s1 with heap := h'.push (PySem.W.kdv_obj "<lambda>" (X.env.qual ++ "<lambda>") params (.expr body) scope (cloFrom X.env.cells scope.names []) (.ref s1.heap.objs.size) doc ((X.mg "__name__").getD .none) c' ctv), toks := tk } := I2.kept fun b o e => Heap.get?_push_of_some _ (hx b o e)
    have hsz2 : s1.heap.objs.size + 1 ≤ h'.objs.size := by rw [← hs2]; exact hsz
    exact h h'.objs.size c' s1.heap.objs.size td ((X.mg "__name__").getD .none) ctv doc H1 _ I3 (ExtN.refl H1) hT (Heap.get?_push_size _ rfl) (Heap.get?_push_of_some _ (hx _ _ hDg)) (I2.hok.fresh hsz) (nofr _ (by omega)) nD (nofr _ (Nat.le_refl _)) hco
end
/-! ### the lambda's names: one parameter of its own -/
structure LamSD (sc scope : Scope) (N : List Str) (a : Str) : Prop where
  kind : scope.kind = .function
  co : scope.isCoroutine = false
  gen : scope.isGenerator = false
  own : ∀ y ∈ scope.names, (y.2 = .local → y.1 ∉ N) ∧ y.2 ≠ .cell
  par : scope.names.lookup a = some .local
  free : ∀ y ∈ scope.names, y.2 = .free → sc.names.lookup y.1 = some .cell ∨ sc.names.lookup y.1 = some .free
def lamSDB (sc scope : Scope) (N : List Str) (a : Str) : Bool :=
  decide (scope.kind = .function) && !scope.isCoroutine && !scope.isGenerator && decide (scope.names.lookup a = some .local) && scope.names.all fun y => (!decide (y.2 = .local) || !N.contains y.1) && !decide (y.2 = .cell) && (!decide (y.2 = .free) || decide (sc.names.lookup y.1 = some .cell) || decide (sc.names.lookup y.1 = some .free))
theorem lamSD_by {sc scope : Scope} {N : List Str} {a : Str} (h : lamSDB sc scope N a = true) : LamSD sc scope N a := by
  unfold lamSDB at h
  simp only [Bool.and_eq_true, Bool.or_eq_true, Bool.not_eq_true', decide_eq_true_eq, decide_eq_false_iff_not, List.all_eq_true] at h
  obtain ⟨⟨⟨⟨h1, h2⟩, h3⟩, h5⟩, h4⟩ := h
  refine ⟨h1, h2, h3, fun y hy => ⟨fun e hm => ?_, (h4 y hy).1.2⟩, h5, fun y hy e => ?_⟩
  · rcases (h4 y hy).1.1 with z | z
    · exact z e
    · rw [List.contains_iff_mem.mpr hm] at z
      cases z
  · rcases (h4 y hy).2 with (z | z) | z
    · exact absurd e z
    · exact .inl z
    · exact .inr z
theorem LamSD.has {X : Cx} {scope : Scope} {N : List Str} {a : Str} (L : LamSD X.env.scope scope N a) (ok : X.Ok) : ∀ y ∈ scope.names, y.2 = .free → ∃ c, X.env.cells.lookup y.1 = some c := fun y hy e => by
  rcases L.free y hy e with k | k
  · exact ok.has _ (.inl k)
  · exact ok.has _ (.inr k)
section
variable {X : Cx} {pins : List (Addr × Obj)} {σ : L2.St} {H HZ : Hp} {s s1 : Shared}
theorem lam_start3 {A : Around} {outer : List Env} {E : XK} {scope : Scope} {a : Str} {m : Str → Option Value} {f c' : Addr} {h₁ : Heap} {tk : Nat} (I : Inv X pins σ H s) (L : LamSD X.env.scope scope X.N a) (e0 : Env0 X.prog X.w X.K X.mg X.base A outer s1 HZ) (hd : A.handled = none)
    (un : Un (frs X.stack) [] H HZ s.heap s1.heap) (hns : h₁.Ns s1.heap.objs.size m) (kp : ∀ b o, s1.heap.get? b = some o → h₁.get? b = some o) :
    Inv (lamCx X A outer s1 HZ E scope f c') [] σ HZ { s1 with heap := h₁, toks := tk } := by
  have hfree := L.has I.ok
  have cm : ∀ {y c}, (cloFrom X.env.cells scope.names []).lookup y = some c → X.env.cells.lookup y = some c := fun {y c} e => by
    rcases cloFrom_mem (PySem.mem_of_lookup e) with hm | ⟨h1, h2⟩
    · cases hm
    · obtain ⟨c1, hc⟩ := hfree _ h1 rfl
      have hc : X.env.cells.lookup y = some c1 := hc
      have e2 : c = c1 := by
        rw [h2, hc] <;> rfl
      rw [e2]
      exact hc
  have look : ∀ {y}, scope.names.lookup y = some .free → ∃ c, (cloFrom X.env.cells scope.names []).lookup y = some c := fun {y} hl => by
    have hy : (y, NameKind.free) ∈ scope.names := PySem.mem_of_lookup hl
    exact mem_lookup (cloFrom_has (cells := X.env.cells) (acc := []) hy)
  have cellK : ∀ {c : Addr} {v : Option Value}, H c = none → s.heap.IsCell c v → h₁.IsCell c v := fun {c v} n ⟨o, ho, hd⟩ => by
    obtain ⟨sl, q⟩ := un.any ho n (by simp)
    exact ⟨_, kp _ _ q, hd⟩
  have noA : ∀ b : Addr, b ∉ (lamCx X A outer s1 HZ E scope f c').ex := fun b z => absurd (show b ∈ ([] : List Addr) from z) (by simp)
  refine ⟨⟨e0.mod, L.kind, rfl, rfl, Nat.le_refl _, fun y z c e1 e2 => I.ok.inj y z c (cm e1) (cm e2), fun y hy => ?_, fun y c z _ => ?_, fun _ => hd, Around.frames_deeper e0.frames, .inr ⟨rfl, rfl⟩, fun b z => absurd z (noA b), e0.bs, e0.bsz, fun b _ _ => noA b,
      fun b z => absurd z (noA b), e0.funs, e0.frf⟩,
    rfl, e0.bare, Un.kept kp, ⟨_, hns, fun i y v e1 e2 e3 => ?_⟩, fun y c e => ?_, e0.hok.fresh (Nat.le_refl _), fun y c e => ?_, fun q hq => absurd (show q ∈ ([] : List (Addr × Obj)) ++ [] from hq) (by simp), e0.hok.kept kp, I.len⟩
  · have hy : scope.names.lookup y = some .cell ∨ scope.names.lookup y = some .free := hy
    rcases hy with hy | hy
    · exact absurd rfl (L.own _ (PySem.mem_of_lookup hy)).2
    · exact look hy
  · have z : false = true := z
    cases z
  · have e3 : Vis scope y := e3
    rcases e3 with k | k | k
    · exact absurd (List.mem_of_getElem? (show X.N[i]? = some y from e1)) ((L.own _ (PySem.mem_of_lookup k)).1 rfl)
    · exact absurd rfl (L.own _ (PySem.mem_of_lookup k)).2
    · obtain ⟨m, hn, hl⟩ := I.loc
      have hvis : Vis X.env.scope y := (L.free _ (PySem.mem_of_lookup k) rfl).elim (fun k => .inr (.inl k)) (fun k => .inr (.inr k))
      obtain ⟨w', r, q⟩ := hl i y v e1 e2 hvis
      obtain ⟨c2, h2⟩ := look k
      refine ⟨w', r, .inr ⟨.inr k, c2, h2, ?_⟩⟩
      have c1 := cm h2
      rcases q with ⟨k', _⟩ | ⟨_, c3, e', z⟩
      · have k' : X.env.scope.names.lookup y = some .local := k'
        rcases L.free _ (PySem.mem_of_lookup k) rfl with k2 | k2 <;> rw [show X.env.scope.names.lookup y = _ from k2] at k' <;> cases k'
      · rw [c1] at e'
        cases e'
        exact cellK (I.freeC y _ c1) z
  · obtain ⟨w', z⟩ := I.cell y c (cm e)
    exact ⟨w', cellK (I.freeC y c (cm e)) z⟩
  · obtain ⟨v, o, ho, hd⟩ := I.cell y c (cm e)
    exact un.free c o ho (I.freeC y c (cm e)) (by simp)
theorem pe_act3 {CXg : CXT} {Eg : XK} {Ng : List Str} {qg : Str} {sg : Scope} {g f c' D : Addr} {cdg pm ctv doc : Value} {params : Arguments} {body : Expr} {scope : Scope} {k i : Nat} {a par : Str} {n : Int} {td : Tok} {pn : List (Addr × Obj)} {xe : Value → Shared → Prop} {W : WX} {E : XK} {tb : TE} {p1 p2 : Pos}
    (I : Inv X pins σ H s) (L : LamSD X.env.scope scope X.N par) (hf : s.heap.get? f = some (PySem.W.kdv_obj "<lambda>" (X.env.qual ++ "<lambda>") params (.expr body) scope (cloFrom X.env.cells scope.names []) (.ref D) doc pm c' ctv)) (hfn : H f = none) (hfr : f ∉ frs X.stack)
    (hD : s.heap.get? D = some (PySem.W.kdv_tup [.int n td])) (hDn : H D = none) (hDr : D ∉ frs X.stack)
    (hbind : ∀ (s : Shared), s.heap.get? D = some (PySem.W.kdv_tup [.int n td]) → BindsTo s (PySem.W.kdv_fn "<lambda>" (X.env.qual ++ "<lambda>") params (.expr body) scope (cloFrom X.env.cells scope.names []) (.ref D) doc pm (.ref c') ctv) ⟨[], []⟩ [(par, .int n td)])
    (tk : Takes ((cxOf CXg X.prog X.w X.K X.mg X.base Ng qg sg g cdg X.A X.stack s H Eg).tr pn xe) W) (hW : ∀ cls d σ' H', E cls d H' → W cls d σ' H') (hr : Room (k + 1) (X.A.deeper (envOfC qg sg s.heap.objs.size g cdg)))
    (hbody : ∀ (A : Around) (outer : List Env) (s : Shared) (H : Hp), Room k (A.deeper (lamEnv X scope s.heap.objs.size f c')) → PE (lamCx X A outer s H E scope f c') body tb)
    (hN : Ng[i]? = some a) (hv : Vis sg a) (hd : (a == ("__debug__" : Str)) = false := by decide) (hcd : (a == ("__classdict__" : Str)) = false := by decide) :
    PE ((cxOf CXg X.prog X.w X.K X.mg X.base Ng qg sg g cdg X.A X.stack s H Eg).tr pn xe) (.Call (.Name a p1) [] [] p2)
      (fun σZ HZ Q => σZ[i]? = some (some (.ref f)) ∧ HZ c' = some (CodeO c' (X.env.qual ++ "<lambda>")) ∧ tb σ HZ Q) := by
  refine ⟨fun pinsZ sZ σZ HZ Q IZ h => ?_⟩
  obtain ⟨hs, hc, ht⟩ := h
  refine wpAny_Call_Name_kw (thn ((pe_var (pos := p1) (i := i) hN hv hd hcd).run pinsZ sZ σZ HZ (fun v H1 => v = .ref f ∧ H1 = HZ) IZ ⟨.ref f, hs, rfl, rfl⟩) fun u s1 ⟨v, H1, I1, r1, q1⟩ => ?_)
  obtain ⟨ev, eH⟩ := q1
  subst ev
  rw [eH] at I1
  obtain rfl : u = Value.ref f := r1
  have of1 : s1.heap.get? f = some (PySem.W.kdv_obj "<lambda>" (X.env.qual ++ "<lambda>") params (.expr body) scope (cloFrom X.env.cells scope.names []) (.ref D) doc pm c' ctv) := I1.base.keep f _ hf hfn hfr (fun z => nomatch (show f ∈ ([] : List Addr) from z))
  have oD1 : s1.heap.get? D = some (PySem.W.kdv_tup [.int n td]) := I1.base.keep D _ hD hDn hDr (fun z => nomatch (show D ∈ ([] : List Addr) from z))
  refine PySem.W.callWith_F0 ⟨_, _, _, _, of1⟩ ?_
  have un : Un (frs X.stack) [] H HZ s.heap s1.heap := I1.base
  obtain ⟨⟨oc, vs, t, hoc, hdc, hvc⟩, _, _⟩ := I1.hok c' _ hc
  have rc : codeAny (model X.prog X.w) (X.A.deeper (envOfC qg sg s.heap.objs.size g cdg)) (.call (.ref f) ⟨[], []⟩) (CR (L2.CX X.prog X.w) (envOfC qg sg s.heap.objs.size g cdg :: X.stack) X.prog X.w HZ s1 Q E) s1 := by
    refine PySem.W.kla_callFunE hr.depth of1 rfl L.co L.gen rfl ⟨c', oc, vs, t, rfl, hoc, hdc, hvc⟩ ?_
    refine hbind s1 oD1 _ _ _ _ ?_
    refine wpAny_newFunctionEnv (fun y hy => (L.own y hy).2) (fun y hy => ?_) (fun h₁ hns hsb => ⟨I1.nolimit.fresh _ hsb, ?_⟩) L.kind
    · rw [List.mem_singleton] at hy
      subst hy
      exact L.par
    show codeAny _ _ (.expr body (lamEnv X scope s1.heap.objs.size f c')) _ _
    have kp : ∀ b o, s1.heap.get? b = some o → h₁.get? b = some o := fun b o e => hsb.extBut b o (Nat.ne_of_lt (Heap.lt_size e)) (Heap.get?_push_of_some _ e)
    have J : Inv (lamCx X (X.A.deeper (envOfC qg sg s.heap.objs.size g cdg)) (envOfC qg sg s.heap.objs.size g cdg :: X.stack) s1 HZ E scope f c') [] σ HZ { s1 with heap := h₁, toks := s1.toks + ([(par, Value.int n td)] : List (Str × Value)).length } :=
      lam_start3 I L I1.env0 hr.hd un hns kp
    refine PySem.W.kla_codeExpr (wpAny_mono ((hbody _ _ s1 HZ (hr.deeper _)).run [] _ _ HZ Q J ht) (fun v s' hq => ?_) fun e s' hq => hq)
    obtain ⟨w', H', J', rv, q⟩ := hq
    exact ⟨w', H', J'.os, J'.bare, J'.base, J'.hok, rv, q⟩
  have hx : Passes (L2.CX X.prog X.w) ((cxOf CXg X.prog X.w X.K X.mg X.base Ng qg sg g cdg X.A X.stack s H Eg).tr pn xe) E := passes_call tk hW
  refine wpAny_call (codeAny_mono rc fun r s' hq => ?_)
  cases r with
  | error e => exact hx pinsZ σZ HZ s1 e s' I1 hq
  | ok fl =>
    cases fl with
    | ret u => exact I1.after hq
    | next => exact False.elim hq
    | brk => exact False.elim hq
    | cont => exact False.elim hq
end
section
variable {X : Cx}
/-- x(lambda par=n: body) -/
theorem pe_lamcallD {T : List (Addr × Str)} {TT : (XK → Hp → VK → Prop) → Hp → VK → Prop} {x a par : Str} {g c P : Addr} {k : Nat} {pg : Arguments} {bg : List Stmt} {sg : Scope} {dV kV doc pm cdv ct oc : Value} {an od : Option Addr} {osl : Array (Option Value)} {Ng : List Str}
    {params : Arguments} {body : Expr} {scope : Scope} {n : Int} {j : Nat} {cp : Pos} {t : XK → TE} {p lpos pos : Pos} (hg : Gl X x) (hm : X.mg x = some (.ref g)) (hk : PySem.W.keepIn X.K (.ref g) = true)
    (lk : X.K.lookup g = some ⟨oc, od, .func (PySem.W.fnOf x x pg bg sg dV kV doc pm an cdv ct), osl⟩) (hcg : PySem.W.codeIn X.K cdv x = true) (hb : L2.Binds X.K (PySem.W.fnOf x x pg bg sg dV kV doc pm an cdv ct) [a] []) (Sg : FnScope Ng [a] sg) (hNg : Ng[0]? = some a) (hva : Vis sg a)
    (hG : GivesTo X Ng x sg g cdv bg a (X.env.qual ++ "<lambda>") TT)
    (TB : TabB X.base X.mg c P) (hcode : X.env.code = .ref c) (hmT : (P, X.env.qual ++ "<lambda>") ∈ T) (hu : ∀ p ∈ T, p.1 = P → p.2 = X.env.qual ++ "<lambda>") (hr : Room (k + 2) X.A) (L : LamSD X.env.scope scope X.N par) (hd : params.defaults = [.Constant (.int n) j cp]) (hk0 : params.kw_defaults = [])
    (hbind : ∀ (s : Shared) (q : Str) (cl : List (Str × Addr)) (D : Addr) (td : Tok) (doc pm cv ctv : Value), s.heap.get? D = some (PySem.W.kdv_tup [.int n td]) → BindsTo s (PySem.W.kdv_fn "<lambda>" q params (.expr body) scope cl (.ref D) doc pm cv ctv) ⟨[], []⟩ [(par, .int n td)])
    (hbody : ∀ (A : Around) (outer : List Env) (s : Shared) (H : Hp) (E : XK) (f c' : Addr), Room k (A.deeper (lamEnv X scope s.heap.objs.size f c')) → PE (lamCx X A outer s H E scope f c') body (t E))
    (hdb : (x == ("__debug__" : Str)) = false := by decide) (hdd : (a == ("__debug__" : Str)) = false := by decide) (hcd : (a == ("__classdict__" : Str)) = false := by decide) :
    PE X (.Call (.Name x p) [.Lambda params body scope lpos] [] pos) (tLam T TT t) := by
  refine ⟨fun pins s σ H Q I h => ?_⟩
  obtain ⟨hT, h⟩ := h
  refine wpAny_Call_Name_kw (ld_glob I hg hm ?_ hdb)
  refine PySem.W.callWith_K (h₀ := X.base) I.ok.mod.kin hk ?_ (by rfl) (by rfl)
  show wpAny _ _ (spliced ((false, eval (.Lambda params body scope lpos) X.env) :: backTo pos (starEach [] X.env))) _ _ s
  refine Calls.spliced_cons (lam_make3 I TB hcode hmT hu hT hd hk0 (L.has I.ok) rfl fun f c' D td pm' ctv doc' H1 s' I1 eN T1 hf hDg hfn hfr hDn hDr hco => ?_)
  refine Calls.spliced_nil ⟨I1.kIn, ?_⟩
  have rc : codeAny (model X.prog X.w) X.A (.call (.ref g) ⟨[.ref f], []⟩) (CR C8.CX0 X.stack X.prog X.w H1 s' Q C8.E0) s' := by
    refine run_ofS (N := Ng) (ps := [a]) (us := [.ref f]) (vs := [.ref f]) lk hcg Sg hr I1.env0 (hb s' [.ref f] I1.kIn rfl) (.cons rfl .nil) rfl fun hr' => ?_
    obtain ⟨t', ht', hq'⟩ := hG f c' s' H1 Q (fun E H' Q' => t E σ H' Q') (fun W pn xe E p1 p2 tk hW => pe_act3 (i := 0) I1 L hf hfn hfr hDg hDn hDr (fun s hs => hbind s _ _ _ _ _ _ _ _ hs) tk hW hr' (fun A outer s H hr2 => hbody A outer s H E f c' hr2) hNg hva hdd hcd) hco (h H1 eN T1)
    exact ⟨t', ht'.nox, hq'⟩
  refine wpAny_call (codeAny_mono rc fun r s2 hq => ?_)
  cases r with
  | error e => exact (show False from hq).elim
  | ok fl =>
    cases fl with
    | ret u => exact I1.after hq
    | next => exact False.elim hq
    | brk => exact False.elim hq
    | cont => exact False.elim hq
end
end TD

/-! What _law_kind asks: a caught error's class, how many are True. -/
namespace TD
open PySem PySem.Spec PyProof.Rows L2 LamX
theorem bt_VE : bootBuiltins "ValueError" = some (.type "ValueError") := by decide +kernel
def rCntB (K : PySem.W.Frag) : V → List V → Hp → VK → Prop := fun x xs H Q => ∃ (p : Addr) (bs : List Bool) (k : Bool), x = .ref p ∧ xs = [.bl k] ∧ SqL K H p (bs.map V.bl) ∧ Q (.int (bs.count k : Nat)) H
theorem bools_of_vals : ∀ {bs : List Bool} {its : List Value}, Vals (bs.map V.bl) its → its = bs.map Value.bool
  | [], _, h => by cases h; rfl
  | b :: bs, _, h => by
    cases h with
    | cons r h =>
      have e := bools_of_vals h
      have r : _ = Value.bool b := r
      rw [e, r]
      rfl
theorem count_bools (k : Bool) : ∀ bs : List Bool, (bs.map Value.bool).countP (isBoolOf k) = bs.count k
  | [] => rfl
  | b :: bs => by
    have ih := count_bools k bs
    rw [List.map_cons, List.countP_cons, List.count_cons, ih]
    cases b <;> cases k <;> rfl
theorem mt_countB {X : Cx} : MtR X "list.count" (rCntB X.K) := by
  intro pins s σ H x xs v us Q I rx rxs h
  obtain ⟨p, bs, k, rfl, rfl, hs, q⟩ := h
  cases rx
  obtain ⟨u, rfl, ru⟩ := rxs.one
  have ru : u = Value.bool k := ru
  subst ru
  obtain ⟨its, rv, ⟨⟨cls, dd, data, sl⟩, n, ho, hc, hdn, hd⟩, hlen⟩ := I.list hs
  simp only at hc hd
  subst hc hd
  have hi := bools_of_vals rv
  subst hi
  refine call_meets PySem.F.slot_list_count ⟨_, ho, rfl⟩ PySem.F.entry_list_count (PySem.F.args_list_count_2 _ _)
    (SeqAt.list_countAt p (bs.map Value.bool).toArray n dd sl (.bool k) (isBoolOf k)) ⟨ho, fun y hy => ?_, ?_⟩
  · have hy : y ∈ bs.map Value.bool := by simpa using hy
    obtain ⟨b, _, rfl⟩ := List.mem_map.mp hy
    exact SeqAt.EqAt.bool_bool b k
  · refine ⟨.int (bs.count k : Nat), H, I.tok _, ⟨s.toks, ?_⟩, q⟩
    show Value.int (((bs.map Value.bool).toArray.toList.countP (isBoolOf k) : Nat) : Int) s.toks = Value.int ((bs.count k : Nat) : Int) s.toks
    rw [show (bs.map Value.bool).toArray.toList = bs.map Value.bool from rfl, count_bools]
theorem PSs.case {X : Cx} {body : List Stmt} {ts : TS} (h : ∀ D σ H, ts D σ H → ∃ t, PSs X body t ∧ t D σ H) : PSs X body ts := ⟨fun pins s σ H D I q => by
  obtain ⟨t, p, q'⟩ := h D σ H q
  exact p.run pins s σ H D I q'⟩
theorem takes_len {X : Cx} {W : WX} (t : Takes X W) : Takes X (fun c d σ H => σ.length = X.N.length → W c d σ H) := fun u s' ⟨a, B, sI, pins, σ, H, cls, d, e, I, nb, up, sky, na, os, ag, w⟩ =>
  t u s' ⟨a, B, sI, pins, σ, H, cls, d, e, I, nb, up, sky, na, os, ag, w I.len⟩
theorem three_of {σ : L2.St} (h : σ.length = 3) : ∃ x y z, σ = [x, y, z] := by
  match σ, h with
  | [x, y, z], _ => exact ⟨x, y, z, rfl⟩
/-- a class of refusals: which of the six it is -/
structure KindAt (K : PySem.W.Frag) (CB C0 C1 C2 C3 C4 C5 D : Addr) (i : Nat) : Prop where
  c : ExcC K D
  b : PySem.W.exmOne K (.ref D) (.ref CB) = some true
  k0 : PySem.W.kitOne K (.ref D) (.ref C0) = some (i == 0)
  k1 : PySem.W.kitOne K (.ref D) (.ref C1) = some (i == 1)
  k2 : PySem.W.kitOne K (.ref D) (.ref C2) = some (i == 2)
  k3 : PySem.W.kitOne K (.ref D) (.ref C3) = some (i == 3)
  k4 : PySem.W.kitOne K (.ref D) (.ref C4) = some (i == 4)
  k5 : PySem.W.kitOne K (.ref D) (.ref C5) = some (i == 5)
  v : PySem.W.kitOne K (.ref D) (.type "ValueError") = some true
def kindName (i : Nat) : Str := if i = 0 then "NoBeat" else if i = 1 then "TooLong" else if i = 2 then "Ends" else if i = 3 then "BadStock" else if i = 4 then "NoWish" else "NoNote"
/-- what _law_kind makes of what it is handed -/
def TTKind (K : PySem.W.Frag) (CB C0 C1 C2 C3 C4 C5 : Addr) : (XK → Hp → VK → Prop) → Hp → VK → Prop := fun tl H Q =>
  tl (fun cls d H' => d = none ∧ ∃ (D : Addr) (i : Nat), i < 6 ∧ cls = .ref D ∧ KindAt K CB C0 C1 C2 C3 C4 C5 D i ∧ ∀ H'', Ex H' H'' → Q (.str (kindName i)) H'') H fun _ H' => Q (.str "") H'
/-- the classes of refusals, by their names -/
structure KindCs (mg : Str → Option Value) (CB C0 C1 C2 C3 C4 C5 : Addr) : Prop where
  v : mg "ValueError" = none
  b : mg "BeatError" = some (.ref CB)
  n0 : ∃ u, mg "NoBeat" = some u ∧ RelV (.ref C0) u
  n1 : ∃ u, mg "TooLong" = some u ∧ RelV (.ref C1) u
  n2 : ∃ u, mg "Ends" = some u ∧ RelV (.ref C2) u
  n3 : ∃ u, mg "BadStock" = some u ∧ RelV (.ref C3) u
  n4 : ∃ u, mg "NoWish" = some u ∧ RelV (.ref C4) u
  n5 : ∃ u, mg "NoNote" = some u ∧ RelV (.ref C5) u
end TD

/-! Caught errors, with or without a dict of their own: isinstance; a class's __init__ called by its name; calls of defs within a try. -/
namespace PySem.W
open PySem PySem.Spec PySem.Calls PyProof.Rows
section
variable {prog : Program} {w : World} {A : Around} {E : Value → Shared → Prop} {s : Shared} {K : Frag} {x D : Addr} {ox : Obj} {od : Option Obj}
theorem findObj_dataO {C : Addr} {name : Str} {a g : Value} (hc : (clsIn K C).isSome = true) (ha : findIn K (.ref C) name = some (some a)) (hg : specialIn K a "__get__" = some (some g)) (ht : takesIn K a = some true) : findObj K C od name = some (.bind g a) := by
  obtain ⟨cd, hc⟩ := Option.isSome_iff_exists.mp hc
  unfold findObj
  rw [hc, Option.bind_some, ha, Option.bind_some]
  simp [hg, ht]
theorem kin_classO {Q : Option Value → Shared → Prop} (hga : findIn K (.ref D) "__getattribute__" = some (some (.builtin "BaseException.__getattribute__"))) (hgt : findIn K (.ref D) "__getattr__" = some none) (hsub : subIn K (.ref D) (.type "BaseException") = some true)
    (hdct : hasDictIn K D = true) (ha : findIn K (.ref D) "__class__" = some (some (.builtin "object.__class__")))
    (hn : specialIn K (.builtin "object.__class__") "__get__" = some (some (.builtin "getset_descriptor.__get__"))) (htk : takesIn K (.builtin "object.__class__") = some true) (hm : mroIn K D (.type "object") = some true)
    (X : K.In s.heap) (I : InstAt s.heap x ox D od) (h : Q (some (.ref D)) { s with toks := s.toks + 1 }) : wpAny (model prog w) A (getAttr? (.ref x) "__class__") Q E s := by
  have hf : findObj K D od "__class__" = some (.bind (.builtin "getset_descriptor.__get__") (.builtin "object.__class__")) := findObj_dataO (by obtain ⟨cd, hc, _⟩ := any_some hdct; rw [hc]; rfl) ha hn htk
  obtain ⟨hp, g, d, t, os⟩ := s
  have L0 := I.type (M := model prog w)
  have L1 := looks_findIn (M := model prog w) X hga
  have L2 := looks_findIn (M := model prog w) X hgt
  have L3 := looks_find (M := model prog w) X I hf
  have sub : Looks (model prog w) hp (isInstance (.ref x) (.type "BaseException")) true := L0.andThen (looks_subIn X hsub)
  have hx0 : (false && onTheHeap (Value.builtin "BaseException.__getattribute__")) = false := rfl
  have hx2 : (Value.builtin "BaseException.__getattribute__" == Value.builtin "object.__getattribute__") = false := by decide +kernel
  have hx1 : (onTheHeap (Value.ref D) && Value.builtin "BaseException.__getattribute__" == Value.builtin "object.__getattribute__") = false := by rw [hx2]; rfl
  unfold getAttr? getAttrBy? getAttrBy
  refine wpAny_bind (wpAny_mkText (wpAny_bind (wpAny_attempt (wpAny_holding (wpAny_bind (L0.at (wpAny_bind (L1.at ?_))))))))
  show wpAny _ _ (if (onTheHeap (Value.ref D) && Value.builtin "BaseException.__getattribute__" == Value.builtin "object.__getattribute__") = true then _ else _) _ _ _
  rw [hx1, if_neg Bool.false_ne_true]
  unfold getAttrByItsOwn hookBefore
  refine wpAny_bind ?_
  rw [if_pos (show onTheHeap (Value.ref D) = true from rfl)]
  refine L2.at ?_
  refine wpAny_bind (wpAny_attempt (wpAny_holding ?_))
  unfold callGetattribute
  rw [hx0, if_neg Bool.false_ne_true]
  unfold boundAndCalled
  rw [PySem.F.excAttr_ValueError.ga.bind (.ref x)]
  refine wpAny_bind (wpAny_pure ?_)
  show wpAny _ _ (call (.builtin "BaseException.__getattribute__") [.ref x, .str "__class__" t]) _ _ _
  refine wpAny_call (codeAny_call_builtin PySem.F.excAttr_ValueError.ga.plain PySem.F.entry_bexc_ga ?_)
  refine @check_slot (model prog w) _ _ ⟨hp, g, d, t + 1, os⟩ "BaseException.__getattribute__" "BaseException" "__getattribute__" (.ref x) [.str "__class__" t] [] _ (by decide +kernel) (by decide +kernel) sub (PySem.F.args_bexc_ga (.ref x) (.str "__class__" t)) ?_
  unfold Builtin.«object.__getattribute__»
  refine wpAny_bind (wpAny_of_eq (a := ((Value.ref x : Value), [Value.str "__class__" t])) (by first | rfl | (simp only [slotArgs]; rfl)) ?_)
  refine wpAny_bind (wpAny_pure (wpAny_bind (L0.at (wpAny_bind (L3.at ?_)))))
  show wpAny _ _ (holding [Value.builtin "object.__class__"] (call (.builtin "getset_descriptor.__get__") [.builtin "object.__class__", .ref x, .ref D]) >>= ret) _ _ _
  refine wpAny_bind (wpAny_holding (wpAny_call (class_get (s := ⟨hp, g, d, t + 1, os⟩) (ox := ox) (od := od) X I hm ?_)))
  refine wpAny_pure ?_
  show wpAny _ _ (handedOut (.ref D)) _ _ _
  rw [handedOut_of (v := .ref D) rfl]
  first
    | exact wpAny_pure (wpAny_pure h)
    | exact wpAny_pure h
    | exact wpAny_pure (wpAny_bind (wpAny_pure (wpAny_pure h)))
theorem kitx_excO (hga : findIn K (.ref D) "__getattribute__" = some (some (.builtin "BaseException.__getattribute__"))) (hgt : findIn K (.ref D) "__getattr__" = some none) (hsub : subIn K (.ref D) (.type "BaseException") = some true) (hdct : hasDictIn K D = true)
    (ha : findIn K (.ref D) "__class__" = some (some (.builtin "object.__class__")))
    (hn : specialIn K (.builtin "object.__class__") "__get__" = some (some (.builtin "getset_descriptor.__get__"))) (htk : takesIn K (.builtin "object.__class__") = some true) (hm : mroIn K D (.type "object") = some true) :
    KitX K (.ref x) (.ref D) (fun h => InstAt h x ox D od) where
  ty := fun _ _ _ I => I.type
  it := fun _ _ X _ => by
    obtain ⟨cdD, hcD, _⟩ := any_some hdct
    unfold clsIn at hcD
    split at hcD
    · rename_i c' d' cd' sl' ho
      intro A' Q' E' s' k q
      unfold isType loadHead
      exact wpAny_bind (wpAny_loadPart (k _ _ (X _ _ ho)) (wpAny_pure q))
    · cases hcD
  ne := fun h tp dd its n sl X htp => by
    obtain ⟨cdD, hcD, _⟩ := any_some hdct
    refine Bool.eq_false_iff.mpr fun q => ?_
    have e : D = tp := Value.ref.inj (beq_iff_eq.mp q)
    subst e
    unfold clsIn at hcD
    split at hcD
    · rename_i c' d' cd' sl' ho
      have z := (X _ _ ho).symm.trans htp
      cases z
    · cases hcD
  ca := fun X I k => kin_classO hga hgt hsub hdct ha hn htk hm X I k
end
end PySem.W
namespace TD
open PySem PySem.Spec PyProof.Rows L2
/-- the error's own dict, if it has one, stands there -/
def OdAt (H : Hp) (d : Option Addr) : Prop := ∀ dd, d = some dd → ∃ fs, H dd = some (.xd fs)
theorem inst_of {X : Cx} {pins : List (Addr × Obj)} {σ : L2.St} {H : Hp} {s : Shared} {a D : Addr} {d : Option Addr} {oe : Obj} {pn : List (Addr × Obj)} (I : Inv (X.suite a ((a, oe) :: pn)) pins σ H s) (hz : Zc (.ref D) d oe) (hf : ∃ vs, oe.data = .fields vs) (hd : OdAt H d) :
    ∃ od, PySem.W.InstAt s.heap a oe D od := by
  obtain ⟨hget, _⟩ := I.pin (a, oe) (List.mem_append.mpr (.inl List.mem_cons_self))
  obtain ⟨vs, hv⟩ := hf
  have hno : PySem.W.notCls oe = true := by unfold PySem.W.notCls; rw [hv] <;> rfl
  cases d with
  | none => exact ⟨none, hget, hz.1, hno, by rw [hz.2]; trivial⟩
  | some dd =>
    obtain ⟨fs, e⟩ := hd dd rfl
    obtain ⟨mA, hns, _⟩ := (show ObjOk X.prog X.w H s.heap dd (.xd fs) from I.hok dd _ e)
    obtain ⟨od, ho, _⟩ := lookIn_ns hns
    exact ⟨some od, hget, hz.1, hno, by rw [hz.2]; exact ho⟩
/-- isinstance(e, c) -/
def rIsO (K : PySem.W.Frag) (D a : Addr) (d : Option Addr) : List V → Hp → VK → Prop := fun xs H Q => ∃ (c : V) (cv : Value) (b : Bool), xs = [.ref a, c] ∧ (∀ u, RelV c u → u = cv) ∧ OdAt H d ∧ PySem.W.kitOne K (.ref D) cv = some b ∧ Q (.bl b) H
theorem call_isO {X : Cx} {a D : Addr} {d : Option Addr} {oe : Obj} {pn : List (Addr × Obj)} (C : ExcC X.K D) (hz : Zc (.ref D) d oe) (hf : ∃ vs, oe.data = .fields vs) : CallR (X.suite a ((a, oe) :: pn)) (.builtin "isinstance") (rIsO X.K D a d) := by
  intro pins s σ H xs us Q I r h
  obtain ⟨c, cv, b, rfl, hcv, hd, e, q⟩ := h
  cases r with
  | cons rx rr =>
    cases rr with
    | cons rt rr =>
      cases rr
      cases rx
      have ec := hcv _ rt
      subst ec
      obtain ⟨od, J⟩ := inst_of I hz hf hd
      exact PySem.W.kia_one (PySem.W.kitx_excO C.hg C.hk C.hs C.hd C.ha C.hn C.ht C.hm) I.kIn J e (fun z => nomatch z) fun tk => ⟨.bl b, H, I.kept (t' := tk) fun _ _ z => z, rfl, q⟩
/-- isinstance(e, (C, ..)), own classes -/
def rIsOT (K : PySem.W.Frag) (D a : Addr) (d : Option Addr) : List V → Hp → VK → Prop := fun xs H Q => ∃ (tp : Addr) (Cs : List Addr) (b : Bool), xs = [.ref a, .ref tp] ∧ H tp = some (.tup (Cs.map V.ref)) ∧ OdAt H d ∧ PySem.W.kitAny K (.ref D) (Cs.map Value.ref) = some b ∧ Q (.bl b) H
theorem refs_vals : ∀ {Cs : List Addr} {its : List Value}, Vals (Cs.map V.ref) its → its = Cs.map Value.ref
  | [], _, h => by cases h; rfl
  | c :: cs, _, h => by
    cases h with
    | cons r h =>
      have e := refs_vals h
      have r : _ = Value.ref c := r
      rw [e, r]
      rfl
theorem call_isOT {X : Cx} {a D : Addr} {d : Option Addr} {oe : Obj} {pn : List (Addr × Obj)} (C : ExcC X.K D) (hz : Zc (.ref D) d oe) (hf : ∃ vs, oe.data = .fields vs) : CallR (X.suite a ((a, oe) :: pn)) (.builtin "isinstance") (rIsOT X.K D a d) := by
  intro pins s σ H xs us Q I r h
  obtain ⟨tp, Cs, b, rfl, ht, hd, e, q⟩ := h
  obtain ⟨u1, u2, rfl, r1, r2⟩ := vals2 r
  cases (show u2 = Value.ref tp from r2)
  cases (show u1 = Value.ref a from r1)
  obtain ⟨od, J⟩ := inst_of I hz hf hd
  obtain ⟨_, its, rv, o, h1, h2, n, h3⟩ := (show ObjOk X.prog X.w H s.heap tp (.tup (Cs.map V.ref)) from I.hok tp _ ht)
  have e3 := refs_vals rv
  subst e3
  obtain ⟨oc, od2, dt, sl⟩ := o
  simp only at h2 h3
  subst h2 h3
  exact PySem.W.kia_tup (PySem.W.kitx_excO C.hg C.hk C.hs C.hd C.ha C.hn C.ht C.hm) I.kIn J h1 e (fun z => nomatch z) fun tk => ⟨.bl b, H, I.kept (t' := tk) fun _ _ z => z, rfl, q⟩
/-- what of the text a class must have whose __init__ is called by its name -/
structure InitC (K : PySem.W.Frag) (CB : Addr) : Prop where
  rd : PySem.W.readsIn K CB (.type "type") = true
  ga : PySem.W.specialIn K (.ref CB) "__getattribute__" = some (some (.builtin "type.__getattribute__"))
  at_ : PySem.W.findCls K (.ref CB) (.type "type") "__init__" = some (.val (.builtin "ValueError.__init__"))
theorem handed_init : PySem.W.handedIn (.builtin "ValueError.__init__") = true := by decide +kernel
theorem pe_cinit {X : Cx} {CB : Addr} {x : Str} {e : Expr} {es : List Expr} {ta : TA} {p1 p2 pos : Pos} {pl : Sem Bool} (hg : Gl X x) (hm : X.mg x = some (.ref CB)) (T : InitC X.K CB) (ha : PA X (e :: es) ta) (hdb : (x == ("__debug__" : Str)) = false := by decide)
    (hc : eval (.Call (.Attribute (.Name x p1) "__init__" p2) (e :: es) [] pos) X.env = (do
      let ov ← eval (.Name x p1) X.env
      standAt p2.atName
      let (f, first) ← holding [ov] (getMethod ov "__init__" pl)
      callWith pos f first (backTo pos (starEach (e :: es) X.env)) (backToKw pos (keywordEach [] X.env))) := by rfl)
    (he : starEach (e :: es) X.env = (false, eval e X.env) :: starEach es X.env := by rfl) (hpl : (backTo pos (starEach es X.env)).any (·.1) = false := by rfl) :
    PE X (.Call (.Attribute (.Name x p1) "__init__" p2) (e :: es) [] pos) (tVeI X.K ta) := by
  refine ⟨fun pins s σ H Q I h => ?_⟩
  refine PySem.W.methodCall_KW (ld_glob I hg hm ?_ hdb) hc
  refine PySem.W.method_cls I.kIn T.ga (PySem.W.cls_value I.kIn T.rd T.at_ handed_init ?_)
  show wpAny _ _ (callWith pos (Value.builtin "ValueError.__init__") [] (backTo pos (starEach (e :: es) X.env)) []) _ _ _
  refine PyProof.Rows.callWith_method1 (thn (ha.run pos pins _ σ H _ (I.tok _) h) fun us s1 ⟨vs, H1, I1, r1, a, C, ws, ev, hl, T, ea, q⟩ => ?_) he hpl
  subst ev
  cases r1 with
  | @cons _ u0 _ ur ra rw' =>
    obtain rfl : u0 = Value.ref a := ra
    have hlen : ur.length ≤ sizeLine := by
      rw [← Paired.length rw', sizeLine_eq]
      omega
    exact oinit_ok T I1 ea hlen fun s' J => ⟨.non, H1, J, rfl, q⟩
/-- a def called within a try -/
theorem pe_dS {X : Cx} {j k : Nat} {x : Str} {sp : Sp} {E : L2.St → XK} {p pos : Pos} {e : Expr} {es : List Expr} {t : TA} (c : Dn X.prog X.w X.K X.mg X.base k x sp) (hr : Room j X.A) (hk : k ≤ j) (hx : ∀ σ, PassesAt (L2.CX X.prog X.w) X σ (E σ)) (hg : Gl X x) (ha : PA X (e :: es) t)
    (hdb : (x == ("__debug__" : Str)) = false := by decide) (he : starEach (e :: es) X.env = (false, eval e X.env) :: starEach es X.env := by rfl) (hpl : (backTo pos (starEach es X.env)).any (·.1) = false := by rfl) :
    PE X (.Call (.Name x p) (e :: es) [] pos) (tCallS sp E t) := by
  obtain ⟨f, fd, ps, F, hm, hk', hb⟩ := c.ex
  exact pe_callS F (hr.mono hk) hg hm hk' hb hx ha hdb he hpl
end TD

namespace TD
open PySem PySem.Spec PyProof.Rows L2
def topS (i : Nat) : Stmt := PySem.Challenge.pw_tickdivide_k08_whole_fewest_with_papers.main.body.getD i (.Pass ⟨0, 0, 0, 0⟩)
abbrev s_NoWish___init__ : Stmt := inClass (topS 6) 0
abbrev s_is_whole : Stmt := topS 9
abbrev s_divisor : Stmt := topS 11
abbrev s_reduced : Stmt := topS 13
abbrev s_is_ratio : Stmt := topS 18
abbrev s_need_stock : Stmt := topS 19
abbrev s_need_wish : Stmt := topS 20
abbrev s_product : Stmt := topS 21
abbrev s_is_less : Stmt := topS 22
abbrev s_level_behind : Stmt := topS 23
abbrev s_first_numbers : Stmt := topS 24
abbrev s_fewest : Stmt := topS 25
abbrev s_shows : Stmt := topS 26
abbrev s__law_mix : Stmt := topS 28
abbrev s__law_next : Stmt := topS 29
abbrev s__law_alike : Stmt := topS 30
abbrev s__law_common : Stmt := topS 31
abbrev s__law_reduced : Stmt := topS 32
abbrev s__law_stock : Stmt := topS 33
abbrev s__law_wish : Stmt := topS 34
abbrev s__law_level : Stmt := topS 35
abbrev s__law_levels : Stmt := topS 36
abbrev s__law_first : Stmt := topS 37
abbrev s__law_asked : Stmt := topS 38
abbrev s_law : Stmt := topS 39
end TD

namespace TD
open PySem PySem.Spec PyProof.Rows L2
section
variable {P : Program} {w : World} {K : PySem.W.Frag} {mg : Str → Option Value} {base : Heap}
local macro_rules | `(tactic| walk_at "ex") => `(tactic| first | assumption | exact Ex.refl _ | (refine Ex.trans ?_ (by assumption : Ex _ _); walk_at "ex"))
local macro_rules | `(tactic| walk_at "fresh") => `(tactic| first | assumption | (refine Ex.back (by assumption : Ex _ _) ?_; walk_at "fresh"))
local macro_rules | `(tactic| walk_at "cond") => `(tactic| ((show (_ : Prop)); (try dsimp only [CMul, CDiv, CPow]); (try simp only [List.length_map]); first | omega | assumption | decide | (simp only [List.length_cons, List.length_nil]; decide) | (split <;> omega) | exact ⟨by omega, by omega⟩ | exact .inr ⟨by omega, by omega⟩ | exact .inl ⟨by omega, by omega⟩ | exact .inr ⟨by decide, by decide⟩ | exact ⟨by decide, by decide, by decide⟩))
local macro_rules | `(tactic| walk_at "seq") => `(tactic| first | assumption | exact SqL.of (by assumption) | exact SqT.of (by assumption) | exact SqL.of (xs := []) (by assumption) | exact FormNew.at (by assumption) | exact sq_upd | exact upd_lst | (refine Ex.sqL (by assumption : Ex _ _) ?_; walk_at "seq") | (refine Ex.sqT (by assumption : Ex _ _) ?_; walk_at "seq") | (refine (by assumption : Ex _ _) _ _ ?_; walk_at "seq") | (refine FormAt.ext ?_ (by assumption : Ex _ _); walk_at "seq") | (refine Rng.ext ?_ (by assumption : Ex _ _); walk_at "seq"))
local macro_rules | `(tactic| walk_at "dp") => `(tactic| first | assumption | exact Dp.int _ | exact Dp.str _ | exact Dp.bl _ | exact Dp.non | (refine Ex.dp (by assumption : Ex _ _) ?_; walk_at "dp"))
local macro_rules | `(tactic| walk_at "go1") => `(tactic| first
  | (refine ⟨_, _, ?d, rfl, ?hd, rfl, ?main⟩; (case hd => walk_at "dp"))
  | refine ⟨_, rfl, ?_⟩
  | refine ⟨_, _, rfl, rfl, (by walk_at "cond"), ?_⟩
  | (refine ⟨_, ?xs, _, ?v, rfl, rfl, ?hS, ?hA, ?main⟩; (case hS => walk_at "seq"); (case hA => rfl))
  | (refine ⟨_, ?xs, rfl, .inl ?hS, ?main⟩; (case hS => walk_at "seq"))
  | (refine ⟨_, ?xs, rfl, .inr ?hS, ?main⟩; (case hS => walk_at "seq"))
  | (refine ⟨_, ?xs, rfl, ?hS, ?hL, ?main⟩; (case hS => walk_at "seq"); (case hL => rfl))
  | (refine ⟨_, ?xs, rfl, ?hS, ?main⟩; (case hS => walk_at "seq"))
  | (refine ⟨(?hE : ∃ xs, SqL _ _ _ xs), ?main⟩; (case hE => (refine ⟨?xs, ?hS⟩; (case hS => walk_at "seq"))))
  | refine ⟨_, _, rfl, rfl, ?_⟩
  | refine ⟨_, _, rfl, ?_⟩
  | refine ⟨rfl, ?_⟩
  | refine ⟨by walk_at "cond", ?_⟩
  | (show nE _ _; refine nE_intro fun _ _ => ?_))
local macro_rules | `(tactic| walk_at "go") => `(tactic| repeat walk_at "go1")
local macro_rules | `(tactic| walk_at "dr") => `(tactic| first | refine ⟨by walk_at "seq", by omega, by omega, ?_⟩ | skip)
local macro_rules | `(tactic| walk_at "norm") => `(tactic| (generalize hσ0 : L2.start _ _ = σ0; simp only [L2.start, List.map_cons, List.map_nil, List.length_cons, List.length_nil, Nat.reduceAdd, Nat.reduceSub, List.replicate, List.cons_append, List.nil_append] at hσ0; subst hσ0))

/-! ### the greatest common divisor -/
theorem sc_divisor : FnScope ["one", "other"] ["one", "other"] (defScope s_divisor) := ⟨rfl, rfl, rfl, by decide +kernel, rfl, by decide +kernel, by decide +kernel⟩
def spDivisor : Sp := fun vs H Q _ => ∃ x y : Int, vs = [.int x, .int y] ∧ 0 ≤ x ∧ 0 ≤ y ∧ Q (.int (gcdZ x y)) H
theorem ok_divisor {f : Addr} {fd : FuncData} (F : Fun K "divisor" "divisor" s_divisor f fd) : FnOk P w K mg base CX0 1 f fd ["one", "other"] spDivisor := by
  have nd := sc_divisor.nd
  refine F.ok sc_divisor (fun vs H Q E h => ?_) (fun cdv A outer s H vs Q E hr h => ?_)
  · obtain ⟨x, y, rfl, _⟩ := h
    rfl
  · obtain ⟨x, y, rfl, hx, hy, q⟩ := h
    refine ⟨_, 
    (pss_cons (ps_while PassesOwn.never (pt_cmpR op_gt (pv 1) pe_int (nomark _)) (pss_one (ps_par (i := 0) (j := 1) rfl nd rfl rfl (by decide) rfl rfl (pa_cons (pv 1) (pa_cons (pe_op op_mod (pv 0) (pv 1)) pa_nil)) (by rfl))))
    (pss_one (ps_ret (pv 0)))), ?_⟩
    refine ⟨fun m σ H' => H' = H ∧ ∃ a b : Int, σ = [some (.int a), some (.int b)] ∧ 0 ≤ a ∧ 0 ≤ b ∧ gcdZ a b = gcdZ x y ∧ m = b.toNat, ⟨_, rfl, x, y, rfl, hx, hy, rfl, rfl⟩, ?_⟩
    rintro m σ H' ⟨rfl, a, b, rfl, ha, hb, hg, rfl⟩
    refine ⟨_, rfl, _, _, rfl, rfl, _, rfl, ite2 (fun c => ?_) (fun c => ?_)⟩
    · have c : 0 < b := of_decide_eq_true c
      refine ⟨fun σ2 H2 => H2 = H' ∧ σ2 = [some (.int b), some (.int (a % b))], ?_, ?_⟩
      · rintro σ2 H2 ⟨rfl, rfl⟩
        refine ⟨_, ?_, rfl, b, a % b, rfl, hb, Int.emod_nonneg _ (by omega), ?_, rfl⟩
        · have := Int.emod_lt_of_pos a c
          have := Int.emod_nonneg a (show b ≠ 0 by omega)
          omega
        · rw [← hg]
          exact gcdZ_mod ha hb
      · exact ⟨_, rfl, _, rfl, _, rfl, _, _, rfl, rfl, c, _, _, rfl, rfl, rfl⟩
    · have c : ¬ 0 < b := fun z => c (decide_eq_true z)
      have e : b = 0 := by omega
      subst e
      refine ⟨_, rfl, ?_⟩
      have e : gcdZ x y = a := by
        rw [← hg]
        unfold gcdZ
        rw [Int.gcd_zero_right]
        omega
      rw [e] at q
      exact q


/-! ### what is drawn from -/
theorem sc__law_mix : FnScope ["_law_script", "_law_seed", "_law_mixed", "_law_cell"] ["_law_script", "_law_seed"] (defScope s__law_mix) := ⟨rfl, rfl, rfl, by decide +kernel, rfl, by decide +kernel, by decide +kernel⟩
theorem ok_mix0 {f : Addr} {fd : FuncData} (F : Fun K "_law_mix" "_law_mix" s__law_mix f fd) (B : Blt mg) : FnOk P w K mg base CX0 1 f fd ["_law_script", "_law_seed"] (spMix0 K) := by
  have nd := sc__law_mix.nd
  refine F.ok sc__law_mix (fun vs H Q E h => ?_) (fun cdv A outer s H vs Q E hr h => ?_)
  · obtain ⟨a, ns, seed, rfl, _⟩ := h
    rfl
  · obtain ⟨a, ns, seed, rfl, hS, hl, q⟩ := h
    refine ⟨_, 
    (pss_cons (ps_set (i := 2) nd rfl (Or.inl rfl) (pv 1))
    (pss_cons (ps_for PassesOwn.never rfl (pi_list (pv 0)) (pg_name (i := 3) nd rfl (Or.inl rfl)) (pss_one (ps_set (i := 2) nd rfl (Or.inl rfl) (pe_op op_mod (pe_op op_add (pe_op op_add (pe_op op_mul (pv 2) pe_int) (pe_op op_mod (pv 3) pe_int)) pe_int) pe_int))))
    (pss_one (ps_ret (pe_lstN (pa_cons (pv 2) (pa_cons (pe_callTy (listK (K := K) rfl) (by rfl) B.list bt_list (pa_cons (pv 0) pa_nil)) (pa_cons pe_int pa_nil)))))))), ?_⟩
    try dsimp only [cxOf, Cx.nox, Cx.wish]
    refine ⟨_, rfl, .ref a, rfl, a, rfl, ⟨_, hS⟩, for_list (K := K) (a := a) (xs := ns.map V.int) (fun i σ H2 => H2 = H ∧ ∃ (m : Int) (y : Option V), σ = [some (.ref a), some (.int seed), some (.int m), y])
      ⟨rfl, seed, none, rfl⟩ (fun i σ H2 _ ⟨e, _⟩ => by subst e; exact hS) ?_ ?_⟩
    · rintro i y σ H2 hi ⟨rfl, m, z, rfl⟩
      obtain ⟨n, rfl⟩ : ∃ n, y = V.int n := by
        obtain ⟨n, _, e⟩ := List.mem_map.mp (List.mem_of_getElem? hi)
        exact ⟨n, e.symm⟩
      walk_at "go"
      exact ⟨_, _, rfl⟩
    · rintro σ H2 ⟨rfl, m, z, rfl⟩
      walk_at "go"
      refine nL_intro fun l H1 nl e1 hl => ?_
      walk_at "go"
      refine nL_intro fun h H3 nh e3 hh => ?_
      have ne : l ≠ h := ne_of_none hl nh
      exact q h l m _ (e1.trans e3) (e1.back nh) nl (Ne.symm ne) hh (e3 _ _ hl)
theorem sc__law_next : FnScope ["_law_h", "_law_many", "_law_at", "_law_cell"] ["_law_h", "_law_many"] (defScope s__law_next) := ⟨rfl, rfl, rfl, by decide +kernel, rfl, by decide +kernel, by decide +kernel⟩
theorem ok_next0 {f : Addr} {fd : FuncData} (F : Fun K "_law_next" "_law_next" s__law_next f fd) (B : Blt mg) : FnOk P w K mg base CX0 1 f fd ["_law_h", "_law_many"] spNext0 := by
  have nd := sc__law_next.nd
  refine F.ok sc__law_next (fun vs H Q E h => ?_) (fun cdv A outer s H vs Q E hr h => ?_)
  · obtain ⟨h, l, m, p, many, cs, rfl, _⟩ := h
    rfl
  · obtain ⟨h, l, m, p, many, cs, rfl, hne, e1, e2, hc, p1, p2, q⟩ := h
    refine ⟨_, 
    (pss_cons (ps_set (i := 2) nd rfl (Or.inl rfl) (pe_op op_mod (pe_ix (ixl (K := K) rfl) (pv 0) pe_int (fun _ _ => rfl)) (pe_callB (call_max2 rfl) (by rfl) B.max bt_max (pa_cons pe_int (pa_cons (pe_callB (lenK (K := K) rfl) (by rfl) B.len PySem.boot_len (pa_cons (pe_ix (ixl (K := K) rfl) (pv 0) pe_int (fun _ _ => rfl)) pa_nil)) pa_nil)))))
    (pss_cons (ps_set (i := 3) nd rfl (Or.inl rfl) (pe_ifExp (pt_cmp (neNil (K := K) rfl hr.units (pe_ix (ixl (K := K) rfl) (pv 0) pe_int (fun _ _ => rfl)))) (pe_ix (ixl (K := K) rfl) (pe_ix (ixl (K := K) rfl) (pv 0) pe_int (fun _ _ => rfl)) (pv 2) (fun _ _ => rfl)) pe_int))
    (pss_cons (ps_if (pt_cmpR op_ge (pv 3) (pe_op op_pow pe_int pe_int) (nomark _)) (pss_cons (ps_asg (pe_op op_fdiv (pv 3) (pv 1)) (pg_sub (pe_ix (ixl (K := K) rfl) (pv 0) pe_int (fun _ _ => rfl)) (pv 2) set_list))
    (pss_one (ps_ret (pe_op op_mod (pv 3) (pv 1))))) pss_nil)
    (pss_cons (ps_asg (pe_op op_mod (pe_op op_add (pe_op op_add (pe_op op_mul (pe_ix (ixl (K := K) rfl) (pv 0) pe_int (fun _ _ => rfl)) pe_int) (pe_op op_mul (pv 3) pe_int)) pe_int) pe_int) (pg_sub (pv 0) pe_int set_list))
    (pss_cons (ps_asg (pe_op op_add (pe_ix (ixl (K := K) rfl) (pv 0) pe_int (fun _ _ => rfl)) pe_int) (pg_sub (pv 0) pe_int set_list))
    (pss_one (ps_ret (pe_op op_mod (pe_op op_fdiv (pe_ix (ixl (K := K) rfl) (pv 0) pe_int (fun _ _ => rfl)) pe_int) (pv 1))))))))), ?_⟩
    try dsimp only [cxOf, Cx.nox, Cx.wish]
    have s1 : SqL K H h [.int m, .ref l, .int p] := .of e1
    have s2 : SqL K H l (cs.map V.int) := .of e2
    -- the place
    walk_at "go"
    rename_i H1 x1
    have hl : ((cs.map V.int).length : Int) = (cs.length : Int) := by rw [List.length_map]
    have a0 : H1 h = some (h3 m l p) := x1 _ _ e1
    have b0 : H1 l = some (hL cs) := x1 _ _ e2
    have s3 : SqL K H1 h [.int m, .ref l, .int p] := .of a0
    have s4 : SqL K H1 l (cs.map V.int) := .of b0
    have st0 : ∀ b o, H b = some o → b ≠ h → b ≠ l → H1 b = some o := fun b o hb _ _ => x1 b o hb
    rw [hl]
    -- the rest, once the cell is known
    have rest : ∀ (j : Nat) (c : Int), (1000000000000000000 ≤ c → cs[j]? = some c) → ∀ at_ : Int, at_ = (j : Int) →
        (tSeq (tIfS (tTest (tOp (rI0 fun i j => V.bl (decide (j ≤ i))) (tVar 3) (tOp (rI CPow fun i j => V.int (i ^ j.toNat)) (tC (V.int 10)) (tC (V.int 18)))))
          (tSeq (tAsg (tOp (rI CDiv fun i j => V.int (i / j)) (tVar 3) (tVar 1)) (gSub (tOp (rIxL K) (tVar 0) (tC (V.int 1))) (tVar 2) rSetL))
            (tRet (tOp (rI (fun _ j => 0 < j) fun i j => V.int (i % j)) (tVar 3) (tVar 1)))) tNext)
          (tSeq (tAsg (tOp (rI (fun _ j => 0 < j) fun i j => V.int (i % j)) (tOp (rI0 fun i j => V.int (i + j)) (tOp (rI0 fun i j => V.int (i + j)) (tOp (rI CMul fun i j => V.int (i * j)) (tOp (rIxL K) (tVar 0) (tC (V.int 0))) (tC (V.int 48271))) (tOp (rI CMul fun i j => V.int (i * j)) (tVar 3) (tC (V.int 69621)))) (tC (V.int 11))) (tC (V.int 2147483647))) (gSub (tVar 0) (tC (V.int 0)) rSetL))
            (tSeq (tAsg (tOp (rI0 fun i j => V.int (i + j)) (tOp (rIxL K) (tVar 0) (tC (V.int 2))) (tC (V.int 1))) (gSub (tVar 0) (tC (V.int 2)) rSetL))
              (tRet (tOp (rI (fun _ j => 0 < j) fun i j => V.int (i % j)) (tOp (rI CDiv fun i j => V.int (i / j)) (tOp (rIxL K) (tVar 0) (tC (V.int 0))) (tC (V.int 7))) (tVar 1))))))
          { nx := fun _ H' => Q V.non H', rt := Q } [some (.ref h), some (.int many), some (.int at_), some (.int c)] H1 := by
      rintro j c hj at_ rfl
      walk_at "go"
      refine ite2 (fun e => ?_) (fun e => ?_)
      · have e : (1000000000000000000 : Int) ≤ c := of_decide_eq_true e
        have hj := hj e
        have hlt : j < cs.length := (List.getElem?_eq_some_iff.mp hj).1
        walk_at "go"
        refine ⟨l, _, _, j, rfl, rfl, b0, Evl.ixN_nat (by rw [List.length_map]; exact hlt), ?_⟩
        walk_at "go"
        refine q _ m p (cs.set j (c / many)) _ (Int.emod_nonneg _ (by omega)) (Int.emod_lt_of_pos _ p1) (by rw [List.length_set]; exact hc) (fun b o hb n1 n2 => by rw [upd_ne n2]; exact st0 b o hb n1 n2) (by rw [upd_ne hne]; exact a0) ?_
        rw [upd_same]
        unfold hL
        rw [List.map_set]
      · walk_at "go"
        refine q _ _ (p + 1) cs _ (Int.emod_nonneg _ (by omega)) (Int.emod_lt_of_pos _ p1) hc (fun b o hb n1 n2 => by rw [upd_ne n1, upd_ne n1]; exact st0 b o hb n1 n2) (by rw [upd_same]; rfl) (by rw [upd_ne (Ne.symm hne), upd_ne (Ne.symm hne)]; exact b0)
    by_cases hcs : cs = []
    · subst hcs
      refine iteF ?_
      exact rest 0 0 (fun z => absurd z (by decide)) _ (by rw [if_neg (by decide)]; show p % 1 = 0; omega)
    · have hpos : 0 < cs.length := List.length_pos_iff.mpr hcs
      have hd : (if ((cs.length : Nat) : Int) > 1 then ((cs.length : Nat) : Int) else 1) = (cs.length : Int) := by split <;> omega
      rw [hd]
      refine iteNSF (show ¬ cs = [] from hcs) ?_
      obtain ⟨j, hj⟩ := Int.eq_ofNat_of_zero_le (Int.emod_nonneg p (show ((cs.length : Nat) : Int) ≠ 0 by omega))
      have hjl : j < cs.length := by have := Int.emod_lt_of_pos p (show (0 : Int) < ((cs.length : Nat) : Int) by omega); omega
      have hget : (cs.map V.int)[j]? = some (.int cs[j]) := by rw [List.getElem?_map, List.getElem?_eq_getElem hjl]; rfl
      refine ⟨_, rfl, h, _, 1, .ref l, rfl, rfl, s3, rfl, _, rfl, l, _, _, .int cs[j], rfl, rfl, s4, at_of hj hget, ?_⟩
      exact rest j cs[j] (fun _ => List.getElem?_eq_getElem hjl) _ hj


theorem gcdZ_pos {x y : Int} (h : 0 < x) : 0 < gcdZ x y := by
  unfold gcdZ
  have := Int.gcd_pos_of_ne_zero_left y (show x ≠ 0 by omega)
  omega
theorem gcdZ_le {x y : Int} (h : 0 < y) : gcdZ x y ≤ y := by
  unfold gcdZ
  exact Int.le_of_dvd h (Int.gcd_dvd_right x y)
def spMultiple : Sp := fun vs H Q _ => ∃ x y : Int, vs = [.int x, .int y] ∧ 0 < x ∧ 0 < y ∧ y < 1073741824 ∧ Q (.int (lcmZ x y)) H
/-- refused if it is too many -/
def spShort (C : Addr) : Sp := fun vs H Q E => ∃ n : Int, vs = [.int n] ∧ (n ≤ 5040 → Q .non H) ∧ (5040 < n → E (.ref C) none H)
def spStart : Sp := fun vs H Q _ => ∃ (v : V) (f : Form), vs = [v] ∧ FormAt H v f ∧ ∀ H', Ex H H' → Q (.int (startOf f)) H'

def spGapsRound (K : PySem.W.Frag) : Sp := fun vs H Q _ => ∃ (a : Addr) (ticks : List Int) (len : Int), vs = [.ref a, .int len] ∧ SqL K H a (ticks.map V.int) ∧ ticks ≠ [] ∧ ticks.length ≤ 100000 ∧ nL H ((gapsRound ticks len).map V.int) Q
def spTick : Sp := fun vs H Q _ => ∃ (v : V) (f : Form) (n : Int), vs = [v, .int n] ∧ FormAt H v f ∧ 0 ≤ n ∧ f.round.length < 1000000 ∧ -(2 ^ 64) < f.len ∧ f.len < 2 ^ 64 ∧ ∀ H', Ex H H' → Q (optV (tickAt f n)) H'
def spCount : Sp := fun vs H Q _ => ∃ (v : V) (f : Form) (m : Int), vs = [v, .int m] ∧ FormAt H v f ∧ f.front.length < 1000000 ∧ f.round.length < 1000000 ∧ (f.round ≠ [] → 0 < f.len ∧ f.len < 1000000) ∧ ∀ H', Ex H H' → Q (.int (countAhead f m)) H'

theorem tickAt_some {f : Form} {n m : Int} (h0 : 0 ≤ n) (h : n < countAhead f m) : tickAt f n = some (tickZ f n) := by
  unfold tickZ
  cases e : tickAt f n with
  | some x => rfl
  | none =>
    unfold tickAt at e
    by_cases c : n < f.front.length
    · rw [if_pos c, List.getElem?_eq_getElem (by omega)] at e
      cases e
    · rw [if_neg c] at e
      by_cases d : f.round = []
      · unfold countAhead at h
        rw [if_pos (.inl d)] at h
        unfold countBelow at h
        have := List.length_filter_le (fun x => decide (x < m)) f.front
        omega
      · rw [if_neg d] at e
        cases e
theorem countAhead_nn {f : Form} {m : Int} (h : f.round ≠ [] → 0 < f.len) : 0 ≤ countAhead f m := by
  unfold countAhead countBelow
  split
  · omega
  · rename_i c
    have c1 : f.round ≠ [] := fun z => c (.inl z)
    have c2 : ¬ m ≤ f.round.headD 0 := fun z => c (.inr z)
    have h1 : 0 ≤ (m - f.round.headD 0) / f.len := Int.ediv_nonneg (by omega) (by have := h c1; omega)
    have h2 : 0 ≤ (m - f.round.headD 0) / f.len * (f.round.length : Int) := Int.mul_nonneg h1 (by omega)
    omega
def spAll (K : PySem.W.Frag) : Sp := fun vs H Q _ => ∃ (v : V) (f : Form) (m : Int), vs = [v, .int m] ∧ FormAt H v f ∧ f.front.length < 1000000 ∧ f.round.length < 1000000 ∧ (f.round ≠ [] → 0 < f.len) ∧ f.len < 1000000 ∧ -1 < f.len ∧ countAhead f m ≤ 1000000 ∧ nL H ((allAhead f m).map V.int) Q

theorem partOk_all {g : List Int} (h : g ≠ []) : partOk g g.length = true := by
  have hp : 0 < g.length := List.length_pos_iff.mpr h
  unfold partOk
  rw [Nat.mod_self, Nat.div_self hp, List.take_length]
  simp
theorem rep_map {g : List Int} {k n : Nat} : (List.replicate n ((g.map V.int).take k)).flatten = ((List.replicate n (g.take k)).flatten).map V.int := by
  rw [List.map_flatten, List.map_replicate, List.map_take]
theorem leastFrom_bd (g : List Int) : ∀ n k, leastFrom g n k ≤ n + k
  | 0, k => by unfold leastFrom; omega
  | n + 1, k => by
    unfold leastFrom
    split
    · omega
    · have := leastFrom_bd g n (k + 1)
      omega
theorem rev_last {l : List Int} (h : l ≠ []) : l.reverse = l.getLastD 0 :: l.dropLast.reverse := by
  have e : l = l.dropLast ++ [l.getLastD 0] := by
    rw [List.getLastD_eq_getLast?, List.getLast?_eq_some_getLast h]
    exact (List.dropLast_concat_getLast h).symm
  rw [e, List.reverse_append]
  simp
def spSettled (K : PySem.W.Frag) : Sp := fun vs H Q _ => ∃ (a b : Addr) (front ticks : List Int) (len : Int), vs = [.ref a, .ref b, .int len] ∧ SqL K H a (front.map V.int) ∧ SqL K H b (ticks.map V.int) ∧ front.length ≤ 100000 ∧ ticks.length ≤ 100000 ∧
  ∀ v H', Ex H H' → FormNew H H' v (settled front ticks len) → Q v H'

def spLater : Sp := fun vs H Q _ => ∃ (v : V) (f : Form) (m : Int), vs = [v, .int m] ∧ FormAt H v f ∧ f.front.length ≤ 100000 ∧ f.round.length ≤ 100000 ∧ ∀ v' H', Ex H H' → FormNew H H' v' (laterF f m) → Q v' H'
theorem tickAt_round {f : Form} {n : Int} (h : f.round ≠ []) (h0 : (f.front.length : Int) ≤ n) : tickAt f n = some (tickZ f n) := by
  unfold tickZ tickAt
  rw [if_neg (by omega), if_neg h]
  rfl
theorem rangeZ_succ (lo : Int) (i : Nat) : rangeZ lo (i + 1) = rangeZ lo i ++ [lo + (i : Int)] := by
  unfold rangeZ
  rw [List.range_succ, List.map_append]
  rfl
theorem keptFrom_outs (bits : List Bool) : ∀ (l : List Int) (k : Nat), outs (fun i => (l[i]?).bind fun x => if bitAt bits ((k + i : Nat) : Int) then some (V.int x) else none) l.length = (keptFrom bits k l).map V.int
  | [], _ => rfl
  | x :: r, k => by
    have ih := keptFrom_outs bits r (k + 1)
    unfold outs at ih ⊢
    rw [List.length_cons, List.range_succ_eq_map, List.filterMap_cons, List.filterMap_map]
    have e : (fun i => ((x :: r)[i]?).bind fun x => if bitAt bits ((k + i : Nat) : Int) then some (V.int x) else none) ∘ Nat.succ = fun i => (r[i]?).bind fun x => if bitAt bits ((k + 1 + i : Nat) : Int) then some (V.int x) else none := by
      funext i
      show (((x :: r)[i + 1]?).bind fun x => if bitAt bits ((k + (i + 1) : Nat) : Int) then some (V.int x) else none) = _
      rw [List.getElem?_cons_succ, show k + (i + 1) = k + 1 + i by omega]
    rw [e, ih]
    rw [keptFrom]
    cases hb : bitAt bits (k : Int) <;> simp [hb]
abbrev Small := Few
def spGated (C : Addr) : Sp := fun vs H Q E => ∃ (v : V) (f : Form) (bits : List Bool), vs = [v, .str (bitsStr bits)] ∧ FormAt H v f ∧ 1 ≤ bits.length ∧ bits.length ≤ 12 ∧ Small f ∧
  (∀ g, gated f bits = some g → ∀ v' H', Ex H H' → FormNew H H' v' g → Q v' H') ∧ (gated f bits = none → ∀ H', Ex H H' → E (.ref C) none H')

theorem sc_is_whole : FnScope ["thing", "least", "most"] ["thing", "least", "most"] (defScope s_is_whole) := ⟨rfl, rfl, rfl, by decide +kernel, rfl, by decide +kernel, by decide +kernel⟩
def spWhole (K : PySem.W.Frag) : Sp := fun vs H Q _ => ∃ (v : V) (d : PyData) (lo hi : Int), vs = [v, .int lo, .int hi] ∧ Dp K H v d ∧ Q (.bl (isWhole lo hi d)) H
theorem ok_is_whole {f : Addr} {fd : FuncData} (F : Fun K "is_whole" "is_whole" s_is_whole f fd) (B : Blt mg) : FnOk P w K mg base CX0 1 f fd ["thing", "least", "most"] (spWhole K) := by
  have nd := sc_is_whole.nd
  refine F.ok sc_is_whole (fun vs H Q E h => ?_) (fun cdv A outer s H vs Q E hr h => ?_)
  · obtain ⟨v, d, lo, hi, rfl, _⟩ := h
    rfl
  · obtain ⟨v, d, lo, hi, rfl, hd, q⟩ := h
    refine ⟨_, 
    (pss_one (ps_ret (pe_and (pe_callB (isiD (K := K) rfl) (by rfl) B.isinstance bt_isinstance (pa_cons (pv 0) (pa_cons (pe_bltn (v := .ty "int") (u := Value.type "int") (by rfl) B.int bt_int rfl) pa_nil))) (pe_and (pe_not (pe_callB (isiD (K := K) rfl) (by rfl) B.isinstance bt_isinstance (pa_cons (pv 0) (pa_cons (pe_bltn (v := .ty "bool") (u := Value.type "bool") (by rfl) B.bool bt_bool rfl) pa_nil)))) (pe_one (pe_chain op_le op_le (pv 1) (pv 0) (pv 2))))))), ?_⟩
    try dsimp only [cxOf, Cx.nox, Cx.wish]
    cases d with
    | int i =>
      cases hd
      walk_at "go"
      simp only [isA_tab]
      walk_at "go"
      have q : Q (.bl (decide (lo ≤ i) && decide (i ≤ hi))) H := q
      refine ite2 (fun c => ?_) (fun c => ?_)
      · walk_at "go"
        rw [c, Bool.true_and] at q
        exact q
      · rw [Bool.eq_false_iff.mpr c, Bool.false_and] at q
        exact q
    | bool b =>
      walk_at "go"
      simp only [isA_tab]
      walk_at "go"
      exact q
    | dict _ => cases hd
    | _ =>
      walk_at "go"
      simp only [isA_tab]
      exact q
def textSmall : PyData → Bool
  | .str s => decide (s.length ≤ 1000000) && PyData.strOk s
  | _ => true
theorem inV_sign (c : Nat) : inV (V.str ⟨#[c]⟩) [.str "0", .str "1"] = signOk c := by
  unfold inV signOk
  have h0 : eqV (.str "0") (V.str ⟨#[c]⟩) = (c == 48) := by
    show ((Str.ofString "0" == (⟨#[c]⟩ : Str)) : Bool) = _
    rw [show Str.ofString "0" = (⟨#[48]⟩ : Str) by decide +kernel]
    by_cases h : c = 48
    · subst h; decide
    · rw [beq_eq_false_iff_ne.mpr h, beq_eq_false_iff_ne]
      intro z
      injection z with z
      simp at z
      exact h z.symm
  have h1 : eqV (.str "1") (V.str ⟨#[c]⟩) = (c == 49) := by
    show ((Str.ofString "1" == (⟨#[c]⟩ : Str)) : Bool) = _
    rw [show Str.ofString "1" = (⟨#[49]⟩ : Str) by decide +kernel]
    by_cases h : c = 49
    · subst h; decide
    · rw [beq_eq_false_iff_ne.mpr h, beq_eq_false_iff_ne]
      intro z
      injection z with z
      simp at z
      exact h z.symm
  simp only [List.any_cons, List.any_nil, Bool.or_false, h0, h1]
theorem dpAll_chars {K : PySem.W.Frag} {H : Hp} : ∀ l : List Nat, DpAll K H (l.map fun c => V.str ⟨#[c]⟩) (l.map fun c => PyData.str ⟨#[c]⟩)
  | [] => .nil
  | c :: r => .cons (.str _) (dpAll_chars r)
theorem shaped_chars {l : List Nat} (h : ∀ c ∈ l, c < 0x110000) : SeqAt.shaped (.list (l.map fun c => PyData.str ⟨#[c]⟩)) = true := by
  refine (shaped_of fun d hd => ?_).1
  obtain ⟨c, hc, rfl⟩ := List.mem_map.mp hd
  refine ⟨?_, by simp [PyData.depth]⟩
  simp [PyData.canLay0, PyData.strOk, h c hc]
def spSigns (K : PySem.W.Frag) : Sp := fun vs H Q _ => ∃ (v : V) (d : PyData), vs = [v] ∧ Dp K H v d ∧ textSmall d = true ∧ ∀ H', Ex H H' → Q (.bl (areSigns d)) H'
def InnerAt (K : PySem.W.Frag) (H0 H H' : Hp) (r : V) : Option (List PyData) → Prop
  | none => r = .non
  | some ds => ∃ p vs, r = .ref p ∧ H p = none ∧ H' p = some (.lst vs) ∧ DpAll K H0 vs ds
def dGood (d : PyData) : Bool := SeqAt.shaped d && headFlat d && (match d with | .tuple ds => ds.all textSmall | _ => true)
def spEvery (K : PySem.W.Frag) : Sp := fun vs H Q _ => ∃ (v : V) (ds : List PyData), vs = [v] ∧ Dp K H v (.tuple ds) ∧ 3 ≤ ds.length ∧ Q (.bl (isEvery ds)) H
theorem tIfS_cut {tt : TT} {A B : TS} {D : Ends} {σ : L2.St} {H : Hp} (b : Bool) (h1 : ∀ Q' : Bool → Hp → Prop, (∀ H', Ex H H' → Q' b H') → tt σ H Q') (h2 : ∀ H', Ex H H' → if b = true then A D σ H' else B D σ H') : tIfS tt A B D σ H := h1 _ h2
theorem leafT {Q' : Bool → Hp → Prop} {b b' : Bool} {H H' : Hp} (hq : ∀ H', Ex H H' → Q' b H') (e : Ex H H') (h : b = b') : Q' b' H' := h ▸ hq _ e
def spInner (K : PySem.W.Frag) : Sp := fun vs H Q _ => ∃ (v : V) (d : PyData) (H0 : Hp), vs = [v] ∧ Ex H0 H ∧ Dp K H0 v d ∧ dGood d = true ∧ ∀ r H', Ex H H' → InnerAt K H0 H H' r (innerOf d) → Q r H'

def finB (d : PyData) : Bool := dGood d && decide (PyData.depth d ≤ 63)
mutual
def fine : PyData → Bool
  | .tuple ds => finB (.tuple ds) && fineAll ds
  | d => finB d
def fineAll : List PyData → Bool
  | [] => true
  | d :: ds => fine d && fineAll ds
end
theorem fine_fin {d : PyData} (h : fine d = true) : finB d = true := by
  cases d <;> simp only [fine, Bool.and_eq_true] at h <;> first | exact h.1 | exact h
theorem fineAll_mem : ∀ {ds : List PyData}, fineAll ds = true → ∀ d ∈ ds, fine d = true
  | [], _, _, hd => by cases hd
  | e :: r, h, d, hd => by
    rw [fineAll, Bool.and_eq_true] at h
    rcases List.mem_cons.mp hd with rfl | hd
    · exact h.1
    · exact fineAll_mem h.2 d hd
theorem fine_parts {ds : List PyData} (h : fine (.tuple ds) = true) : ∀ d ∈ ds, fine d = true := by
  rw [fine, Bool.and_eq_true] at h
  exact fineAll_mem h.2
theorem atD_mem {ds : List PyData} {i : Nat} (h : i < ds.length) : atD ds i ∈ ds := by
  unfold atD
  rw [List.getD_eq_getElem?_getD, List.getElem?_eq_getElem h]
  exact List.getElem_mem _
theorem fine_inner {d : PyData} {es : List PyData} (h : fine d = true) (e : innerOf d = some es) : ∀ x ∈ es, fine x = true := by
  cases d with
  | tuple ds =>
    have hm := fine_parts h
    have e : innerT ds = some es := e
    unfold innerT at e
    intro x hx
    repeat' split at e
    all_goals first | cases e | skip
    all_goals
      rename_i hc
      simp only [Bool.and_eq_true, decide_eq_true_eq] at hc
    · cases hx
    · rcases List.mem_singleton.mp hx with rfl; exact hm _ (atD_mem (by omega))
    · rcases List.mem_singleton.mp hx with rfl; exact hm _ (atD_mem (by omega))
    · rcases List.mem_singleton.mp hx with rfl; exact hm _ (atD_mem (by omega))
    · rcases List.mem_cons.mp hx with rfl | hx
      · exact hm _ (atD_mem (by omega))
      · rcases List.mem_singleton.mp hx with rfl; exact hm _ (atD_mem (by omega))
    · rcases List.mem_cons.mp hx with rfl | hx
      · exact hm _ (atD_mem (by omega))
      · rcases List.mem_singleton.mp hx with rfl; exact hm _ (atD_mem (by omega))
  | _ => cases e
theorem inner_len {d : PyData} {es : List PyData} (e : innerOf d = some es) : es.length ≤ 2 := by
  cases d with
  | tuple ds =>
    have e : innerT ds = some es := e
    unfold innerT at e
    repeat' split at e
    all_goals first | cases e | skip
    all_goals simp
  | _ => cases e
/-- what is still to be looked at, the next one first; k tuples more -/
def lookFrom : Nat → List PyData → Bool
  | _, [] => true
  | 0, _ :: _ => false
  | k + 1, d :: r => match innerOf d with
    | none => false
    | some ds => lookFrom k (ds.reverse ++ r)
def isBeatD (d : PyData) : Bool := lookFrom 30 [d]
def spIsBeat (K : PySem.W.Frag) : Sp := fun vs H Q _ => ∃ (v : V) (d : PyData), vs = [v] ∧ Dp K H v d ∧ fine d = true ∧ ∀ H', Ex H H' → Q (.bl (isBeatD d)) H'
theorem shaped_fine {ds : List PyData} (h : ∀ d ∈ ds, fine d = true) : SeqAt.shaped (.list ds) = true := by
  refine (shaped_of fun d hd => ?_).1
  have h := fine_fin (h d hd)
  unfold finB dGood at h
  simp only [Bool.and_eq_true, decide_eq_true_eq] at h
  exact ⟨(shaped_iff.mp h.1.1.1).1, h.2⟩
/-- refused if it is no beat -/
def spNeed (K : PySem.W.Frag) (C : Addr) : Sp := fun vs H Q E => ∃ (v : V) (d : PyData), vs = [v] ∧ Dp K H v d ∧ fine d = true ∧ (isBeatD d = true → ∀ H', Ex H H' → Q .non H') ∧ (isBeatD d = false → ∀ H', Ex H H' → E (.ref C) none H')

/-! ### what a law compares with -/
def spNever : Sp := fun _ _ _ _ => False
theorem never_ok {X : CXT} {k : Nat} {f : Addr} {fd : FuncData} {ps : List Str} : FnOk P w K mg base X k f fd ps spNever := ⟨fun _ _ _ _ h => h.elim, fun _ _ _ _ _ _ _ _ _ _ _ _ _ h => h.elim⟩
mutual
/-- no list or tuple has too many items -/
def narrow : PyData → Bool
  | .list ds | .tuple ds => decide (ds.length ≤ 100000) && narrowAll ds
  | _ => true
def narrowAll : List PyData → Bool
  | [] => true
  | d :: ds => narrow d && narrowAll ds
end
theorem narrowAll_mem : ∀ {ds : List PyData}, narrowAll ds = true → ∀ d ∈ ds, narrow d = true
  | [], _, _, hd => by cases hd
  | e :: r, h, d, hd => by
    rw [narrowAll, Bool.and_eq_true] at h
    rcases List.mem_cons.mp hd with rfl | hd
    · exact h.1
    · exact narrowAll_mem h.2 d hd
theorem narrowAll_of : ∀ {ds : List PyData}, (∀ d ∈ ds, narrow d = true) → narrowAll ds = true
  | [], _ => by simp [narrowAll]
  | e :: r, h => by
    rw [narrowAll, h e List.mem_cons_self, narrowAll_of fun d hd => h d (List.mem_cons_of_mem _ hd)]
    rfl
theorem sc__law_alike : FnScope ["_law_found", "_law_due", "_law_k"] ["_law_found", "_law_due"] (defScope s__law_alike) := ⟨rfl, rfl, rfl, by decide +kernel, rfl, by decide +kernel, by decide +kernel⟩
/-- the same data twice, of less than n around one another -/
def spAlike (K : PySem.W.Frag) (n : Nat) : Sp := fun vs H Q _ => ∃ (v u : V) (d : PyData), vs = [v, u] ∧ Dp K H v d ∧ Dp K H u d ∧ SeqAt.shaped d = true ∧ narrow d = true ∧ PyData.depth d < n ∧ ∀ H', Ex H H' → Q (.bl true) H'
theorem eqv_refl_str (x : Str) : PyData.eqv (.str x) (.str x) = true := by simp [PyData.eqv]
theorem eqv_refl_int (x : Int) : PyData.eqv (.int x) (.int x) = true := by simp [PyData.eqv]
theorem eqv_refl_bool (x : Bool) : PyData.eqv (.bool x) (.bool x) = true := by simp [PyData.eqv]
def partsOf : PyData → List PyData
  | .list ds | .tuple ds => ds
  | _ => []
theorem narrow_parts {d : PyData} (h : narrow d = true) : (partsOf d).length ≤ 100000 ∧ ∀ x ∈ partsOf d, narrow x = true := by
  cases d <;> simp only [partsOf]
  case list ds =>
    rw [narrow, Bool.and_eq_true] at h
    exact ⟨of_decide_eq_true h.1, narrowAll_mem h.2⟩
  case tuple ds =>
    rw [narrow, Bool.and_eq_true] at h
    exact ⟨of_decide_eq_true h.1, narrowAll_mem h.2⟩
  all_goals exact ⟨Nat.zero_le _, fun x hx => by cases hx⟩
theorem dp_seq {H : Hp} {v : V} {d : PyData} (hk : (isA "tuple" d || isA "list" d) = true) (h : Dp K H v d) : ∃ a xs, v = .ref a ∧ (SqL K H a xs ∨ SqT K H a xs) ∧ DpAll K H xs (partsOf d) := by
  cases h with
  | lst h a => exact ⟨_, _, rfl, .inl h, a⟩
  | tup h a => exact ⟨_, _, rfl, .inr h, a⟩
  | _ => simp [isA_tab] at hk
theorem Ex.sq2 {H H' : Hp} {a : Addr} {xs : List V} (e : Ex H H') (h : SqL K H a xs ∨ SqT K H a xs) : SqL K H' a xs ∨ SqT K H' a xs := h.imp e.sqL e.sqT
theorem parts_shaped {d : PyData} (h : SeqAt.shaped d = true) : ∀ x ∈ partsOf d, SeqAt.shaped x = true := by
  cases d with
  | list ds =>
    refine shaped_of_mem (ds := ds) ?_
    rw [shaped_iff] at h ⊢
    simp only [PyData.canLay0, PyData.depth] at h ⊢
    exact h
  | tuple ds => exact shaped_of_mem h
  | _ => intro x hx; cases hx
theorem depth_parts {d : PyData} : ∀ x ∈ partsOf d, PyData.depth x < PyData.depth d := by
  have key : ∀ ds : List PyData, ∀ x ∈ ds, PyData.depth x ≤ PyData.depthAll ds := by
    intro ds
    induction ds with
    | nil => intro x hx; cases hx
    | cons e r ih =>
      intro x hx
      rw [PyData.depthAll]
      rcases List.mem_cons.mp hx with rfl | hx
      · omega
      · have := ih x hx
        omega
  cases d with
  | list ds =>
    intro x hx
    rw [PyData.depth]
    have := key ds x hx
    omega
  | tuple ds =>
    intro x hx
    rw [PyData.depth]
    have := key ds x hx
    omega
  | _ => intro x hx; cases hx
theorem iteND {c A B : Prop} [Decidable c] (hc : c) (h : B) : if (!decide c) = true then A else B := by
  rw [decide_eq_true hc]
  exact h
theorem step_alike {f : Addr} {fd : FuncData} (F : Fun K "_law_alike" "_law_alike" s__law_alike f fd) (B : Blt mg) {n : Nat} (c__law_alike : Dn P w K mg base (n + 1) "_law_alike" (spAlike K n)) : FnOk P w K mg base CX0 (n + 2) f fd ["_law_found", "_law_due"] (spAlike K (n + 1)) := by
  have nd := sc__law_alike.nd
  refine F.ok sc__law_alike (fun vs H Q E h => ?_) (fun cdv A outer s H vs Q E hr h => ?_)
  · obtain ⟨v, u, d, rfl, _⟩ := h
    rfl
  · obtain ⟨v, u, d, rfl, hv, hu, hsh, hnw, hdp, q⟩ := h
    refine ⟨_, 
    (pss_cons (ps_if (pt_val (pe_callB (isiD2 (K := K) rfl) (by rfl) B.isinstance bt_isinstance (pa_cons (pv 1) (pa_cons (pe_tupN (pa_cons (pe_bltn (v := .ty "tuple") (u := Value.type "tuple") (by rfl) B.tuple bt_tuple rfl) (pa_cons (pe_bltn (v := .ty "list") (u := Value.type "list") (by rfl) B.list bt_list rfl) pa_nil))) pa_nil)))) (pss_cons (ps_if (PW.pt (pw_or (pt_not (pt_val (pe_callB (isiD2 (K := K) rfl) (by rfl) B.isinstance bt_isinstance (pa_cons (pv 0) (pa_cons (pe_tupN (pa_cons (pe_bltn (v := .ty "tuple") (u := Value.type "tuple") (by rfl) B.tuple bt_tuple rfl) (pa_cons (pe_bltn (v := .ty "list") (u := Value.type "list") (by rfl) B.list bt_list rfl) pa_nil))) pa_nil))))) (pw_or1 (pt_cmpR op_ne (pe_callB (isiD (K := K) rfl) (by rfl) B.isinstance bt_isinstance (pa_cons (pv 0) (pa_cons (pe_bltn (v := .ty "list") (u := Value.type "list") (by rfl) B.list bt_list rfl) pa_nil))) (pe_callB (isiD (K := K) rfl) (by rfl) B.isinstance bt_isinstance (pa_cons (pv 1) (pa_cons (pe_bltn (v := .ty "list") (u := Value.type "list") (by rfl) B.list bt_list rfl) pa_nil))) (nomark _))))) (pss_one (ps_ret pe_bl)) pss_nil)
    (pss_cons (ps_if (pt_cmpR op_ne (pe_callB (lenK (K := K) rfl) (by rfl) B.len PySem.boot_len (pa_cons (pv 0) pa_nil)) (pe_callB (lenK (K := K) rfl) (by rfl) B.len PySem.boot_len (pa_cons (pv 1) pa_nil)) (nomark _)) (pss_one (ps_ret pe_bl)) pss_nil)
    (pss_one (ps_ret (pe_cmp (eqNil (K := K) rfl hr.units (pe_lc (own := [("_law_k", 2)]) (g := gName 2) rfl nd (pi_range1 (by rfl) B.range (pa_cons (pe_callB (lenK (K := K) rfl) (by rfl) B.len PySem.boot_len (pa_cons (pv 1) pa_nil)) pa_nil)) (blkOk_by (N := ["_law_found", "_law_due", "_law_k"]) (sc := defScope s__law_alike) (by decide +kernel)) (fun _ _ _ _ _ => pg_name (i := 2) nd rfl (Or.inl rfl)) (fun _ _ _ _ _ => (pts_one (pt_not (pt_val (pe_d c__law_alike hr (by omega) passL (by rfl) (pa_cons (pe_ix (ixlt (K := K) rfl) (pv 0) (pv 2) (fun _ _ => rfl)) (pa_cons (pe_ix (ixlt (K := K) rfl) (pv 1) (pv 2) (fun _ _ => rfl)) pa_nil))))))) (fun _ _ _ _ _ => (pv 2))))))))) pss_nil)
    (pss_cons (ps_if (pt_cmpR op_isN (pv 1) pe_non (nomark _)) (pss_one (ps_ret (pe_cmpR op_isN (pv 0) pe_non (nomark _)))) pss_nil)
    (pss_cons (ps_if (pt_val (pe_callB (isiD (K := K) rfl) (by rfl) B.isinstance bt_isinstance (pa_cons (pv 1) (pa_cons (pe_bltn (v := .ty "str") (u := Value.type "str") (by rfl) B.str bt_str rfl) pa_nil)))) (pss_one (ps_ret (pe_and (pe_callB (isiD (K := K) rfl) (by rfl) B.isinstance bt_isinstance (pa_cons (pv 0) (pa_cons (pe_bltn (v := .ty "str") (u := Value.type "str") (by rfl) B.str bt_str rfl) pa_nil))) (pe_one (pe_cmpR (eqD (K := K) rfl hr.units) (pv 0) (pv 1) (nomark _)))))) pss_nil)
    (pss_cons (ps_if (PW.pt (pw_or (pt_val (pe_callB (isiD (K := K) rfl) (by rfl) B.isinstance bt_isinstance (pa_cons (pv 1) (pa_cons (pe_bltn (v := .ty "bool") (u := Value.type "bool") (by rfl) B.bool bt_bool rfl) pa_nil)))) (pw_or1 (pt_val (pe_callB (isiD (K := K) rfl) (by rfl) B.isinstance bt_isinstance (pa_cons (pv 0) (pa_cons (pe_bltn (v := .ty "bool") (u := Value.type "bool") (by rfl) B.bool bt_bool rfl) pa_nil))))))) (pss_one (ps_ret (pe_and (pe_callB (isiD (K := K) rfl) (by rfl) B.isinstance bt_isinstance (pa_cons (pv 1) (pa_cons (pe_bltn (v := .ty "bool") (u := Value.type "bool") (by rfl) B.bool bt_bool rfl) pa_nil))) (pe_and (pe_callB (isiD (K := K) rfl) (by rfl) B.isinstance bt_isinstance (pa_cons (pv 0) (pa_cons (pe_bltn (v := .ty "bool") (u := Value.type "bool") (by rfl) B.bool bt_bool rfl) pa_nil))) (pe_one (pe_cmpR (eqD (K := K) rfl hr.units) (pv 0) (pv 1) (nomark _))))))) pss_nil)
    (pss_one (ps_ret (pe_and (pe_callB (isiD (K := K) rfl) (by rfl) B.isinstance bt_isinstance (pa_cons (pv 0) (pa_cons (pe_bltn (v := .ty "int") (u := Value.type "int") (by rfl) B.int bt_int rfl) pa_nil))) (pe_one (pe_cmpR (eqD (K := K) rfl hr.units) (pv 0) (pv 1) (nomark _)))))))))), ?_⟩
    try dsimp only [cxOf, Cx.nox, Cx.wish]
    walk_at "go"
    refine nT_intro fun tp H1 np e1 hp => ?_
    walk_at "go"
    refine ⟨u, tp, "tuple", "list", d, rfl, hp, e1.dp hu, rfl, rfl, ?_⟩
    have hsc : ∀ {H'}, Ex H H' → Q (.bl true) H' := fun e => q _ e
    have hd0 : ∀ ds : List PyData, (d = .list ds ∨ d = .tuple ds) → True := fun _ _ => trivial
    cases hk : (isA "tuple" d || isA "list" d) with
    | false =>
      refine ⟨_, rfl, ?_⟩
      refine iteF ?_
      cases d with
      | none =>
        cases hv
        cases hu
        walk_at "go"
        rw [show decide (V.non = V.non) = true from decide_eq_true rfl]
        exact q _ (by walk_at "ex")
      | bool b =>
        cases hv
        cases hu
        walk_at "go"
        simp only [isA_tab]
        walk_at "go"
        refine ⟨_, _, .bl b, .bl b, hsh, hsh, ?_⟩
        rw [eqv_refl_bool]
        exact q _ (by walk_at "ex")
      | int i =>
        cases hv
        cases hu
        walk_at "go"
        simp only [isA_tab]
        walk_at "go"
        refine ⟨_, _, .int i, .int i, hsh, hsh, ?_⟩
        rw [eqv_refl_int]
        exact q _ (by walk_at "ex")
      | str x =>
        cases hv
        cases hu
        walk_at "go"
        simp only [isA_tab]
        walk_at "go"
        refine ⟨_, _, .str x, .str x, hsh, hsh, ?_⟩
        rw [eqv_refl_str]
        exact q _ (by walk_at "ex")
      | list ds => simp [isA_tab] at hk
      | tuple ds => simp [isA_tab] at hk
      | dict _ => cases hu
    | true =>
      obtain ⟨a, xs, rfl, sv, av⟩ := dp_seq hk hv
      obtain ⟨b, ys, rfl, su, au⟩ := dp_seq hk hu
      have lv := dpAll_len av
      have lu := dpAll_len au
      refine ⟨_, rfl, ?_⟩
      refine iteT ?_
      walk_at "go"
      refine nT_intro fun tp2 H2 np2 e2 hp2 => ?_
      walk_at "go"
      refine ⟨_, tp2, "tuple", "list", d, rfl, hp2, by walk_at "dp", rfl, rfl, ?_⟩
      rw [hk]
      walk_at "go"
      refine iteND rfl ?_
      have e02 : Ex H H2 := e1.trans e2
      refine ⟨_, rfl, _, xs, rfl, e02.sq2 sv, _, rfl, _, ys, rfl, e02.sq2 su, ?_⟩
      walk_at "go"
      refine iteND (congrArg V.int (by rw [lv, lu])) ?_
      refine ⟨_, rfl, _, ys, rfl, e02.sq2 su, ?_⟩
      obtain ⟨hn1, hn2⟩ := narrow_parts hnw
      have hn3 : ys.length ≤ 100000 := by omega
      refine ⟨_, rfl, by omega, by omega, ?_⟩
      rw [show ((ys.length : Int)).toNat = ys.length by omega]
      refine lc_out (fun _ => none) Goes.range (by omega) ?_ ?_
      · rintro i x H' hi e rfl R hR
        obtain ⟨va, da, h1, h2, h3⟩ := dpAll_at av i (by omega)
        obtain ⟨vb, db, g1, g2, g3⟩ := dpAll_at au i (by omega)
        rw [h2] at g2
        cases g2
        have hmem : da ∈ partsOf d := List.mem_of_getElem? h2
        refine ⟨rfl, ?_⟩
        have e' : Ex H H' := e02.trans e
        have pick : ∀ {c : Addr} {zs : List V} {z : V} {Q' : VK}, (SqL K H' c zs ∨ SqT K H' c zs) → zs[i]? = some z → Q' z H' → (fun x y H Q => rIxL K x y H Q ∨ rIxT K x y H Q) (V.ref c) (V.int (0 + (i : Int))) H' Q' := fun {c zs z Q'} hs hz hq => by
          have hz' : atI zs (0 + (i : Int)) = some z := by rw [Int.zero_add]; exact atI_nat hz
          rcases hs with hs | hs
          · exact .inl ⟨c, zs, _, z, rfl, rfl, hs, hz', hq⟩
          · exact .inr ⟨c, zs, _, z, rfl, rfl, hs, hz', hq⟩
        walk_at "go"
        refine pick (e'.sq2 sv) h1 ?_
        walk_at "go"
        refine pick (e'.sq2 su) g1 ?_
        walk_at "go"
        refine ⟨va, vb, da, rfl, e'.dp h3, e'.dp g3, parts_shaped hsh _ hmem, hn2 _ hmem, by have := depth_parts _ hmem; omega, fun H5 e5 => ?_⟩
        walk_at "go"
        exact hR _ _ rfl (by walk_at "ex")
      intro p3 H3 np3 e3 hp3
      have : outs (fun _ => none) ys.length = ([] : List V) := by
        unfold outs
        simp
      rw [this] at hp3
      refine ⟨p3, [], rfl, .of hp3, ?_⟩
      walk_at "go"
      exact q _ (by walk_at "ex")
theorem ok_alike {f : Addr} {fd : FuncData} (F : Fun K "_law_alike" "_law_alike" s__law_alike f fd) (B : Blt mg) (hm : mg "_law_alike" = some (.ref f)) (hk : PySem.W.keepIn K (.ref f) = true) (hb : Binds K fd ["_law_found", "_law_due"] []) :
    ∀ n, FnOk P w K mg base CX0 (n + 1) f fd ["_law_found", "_law_due"] (spAlike K n)
  | 0 => never_ok.imp fun _ _ _ _ ⟨_, _, _, _, _, _, _, _, h, _⟩ => absurd h (Nat.not_lt_zero _)
  | n + 1 => step_alike F B (.of0 (ok_alike F B hm hk hb n) hm hk hb)
theorem sc__law_common : FnScope ["_law_one", "_law_other"] ["_law_one", "_law_other"] (defScope s__law_common) := ⟨rfl, rfl, rfl, by decide +kernel, rfl, by decide +kernel, by decide +kernel⟩
theorem ok__law_common {f : Addr} {fd : FuncData} (F : Fun K "_law_common" "_law_common" s__law_common f fd) : FnOk P w K mg base CX0 1 f fd ["_law_one", "_law_other"] spDivisor := by
  have nd := sc__law_common.nd
  refine F.ok sc__law_common (fun vs H Q E h => ?_) (fun cdv A outer s H vs Q E hr h => ?_)
  · obtain ⟨x, y, rfl, _⟩ := h
    rfl
  · obtain ⟨x, y, rfl, hx, hy, q⟩ := h
    refine ⟨_, 
    (pss_cons (ps_while PassesOwn.never (pt_cmpR op_gt (pv 1) pe_int (nomark _)) (pss_one (ps_par (i := 0) (j := 1) rfl nd rfl rfl (by decide) rfl rfl (pa_cons (pv 1) (pa_cons (pe_op op_mod (pv 0) (pv 1)) pa_nil)) (by rfl))))
    (pss_one (ps_ret (pv 0)))), ?_⟩
    refine ⟨fun m σ H' => H' = H ∧ ∃ a b : Int, σ = [some (.int a), some (.int b)] ∧ 0 ≤ a ∧ 0 ≤ b ∧ gcdZ a b = gcdZ x y ∧ m = b.toNat, ⟨_, rfl, x, y, rfl, hx, hy, rfl, rfl⟩, ?_⟩
    rintro m σ H' ⟨rfl, a, b, rfl, ha, hb, hg, rfl⟩
    refine ⟨_, rfl, _, _, rfl, rfl, _, rfl, ite2 (fun c => ?_) (fun c => ?_)⟩
    · have c : 0 < b := of_decide_eq_true c
      refine ⟨fun σ2 H2 => H2 = H' ∧ σ2 = [some (.int b), some (.int (a % b))], ?_, ?_⟩
      · rintro σ2 H2 ⟨rfl, rfl⟩
        refine ⟨_, ?_, rfl, b, a % b, rfl, hb, Int.emod_nonneg _ (by omega), ?_, rfl⟩
        · have := Int.emod_lt_of_pos a c
          have := Int.emod_nonneg a (show b ≠ 0 by omega)
          omega
        · rw [← hg]
          exact gcdZ_mod ha hb
      · exact ⟨_, rfl, _, rfl, _, rfl, _, _, rfl, rfl, c, _, _, rfl, rfl, rfl⟩
    · have c : ¬ 0 < b := fun z => c (decide_eq_true z)
      have e : b = 0 := by omega
      subst e
      refine ⟨_, rfl, ?_⟩
      have e : gcdZ x y = a := by
        rw [← hg]
        unfold gcdZ
        rw [Int.gcd_zero_right]
        omega
      rw [e] at q
      exact q
theorem sc__law_reduced : FnScope ["_law_top", "_law_bottom", "_law_common_here"] ["_law_top", "_law_bottom"] (defScope s__law_reduced) := ⟨rfl, rfl, rfl, by decide +kernel, rfl, by decide +kernel, by decide +kernel⟩
/-- a fraction, reduced; its greatest common divisor is not too great -/
def spReduced : Sp := fun vs H Q _ => ∃ x y : Int, vs = [.int x, .int y] ∧ 0 ≤ x ∧ 0 ≤ y ∧ 0 < gcdZ x y ∧ gcdZ x y < 1073741824 ∧ nT H [.int (x / gcdZ x y), .int (y / gcdZ x y)] Q
theorem ok__law_reduced {f : Addr} {fd : FuncData} (F : Fun K "_law_reduced" "_law_reduced" s__law_reduced f fd) (c__law_common : Dn P w K mg base 1 "_law_common" spDivisor) : FnOk P w K mg base CX0 2 f fd ["_law_top", "_law_bottom"] spReduced := by
  have nd := sc__law_reduced.nd
  refine F.ok sc__law_reduced (fun vs H Q E h => ?_) (fun cdv A outer s H vs Q E hr h => ?_)
  · obtain ⟨x, y, rfl, _⟩ := h
    rfl
  · obtain ⟨x, y, rfl, hx, hy, g0, g1, q⟩ := h
    refine ⟨_, 
    (pss_cons (ps_set (i := 2) nd rfl (Or.inl rfl) (pe_d c__law_common hr (by decide) passL (by rfl) (pa_cons (pv 0) (pa_cons (pv 1) pa_nil))))
    (pss_one (ps_ret (pe_tupN (pa_cons (pe_op op_fdiv (pv 0) (pv 2)) (pa_cons (pe_op op_fdiv (pv 1) (pv 2)) pa_nil)))))), ?_⟩
    try dsimp only [cxOf, Cx.nox, Cx.wish]
    walk_at "go"
    exact q


/-! ### stocks, signs -/
def RatioOk (r : Int × Int) : Prop := 1 ≤ r.1 ∧ 2 * r.1 ≤ r.2 ∧ r.2 ≤ 12
structure StockOk (st : List (Int × Int)) : Prop where
  lo : 1 ≤ st.length
  hi : st.length ≤ 5
  all : ∀ r ∈ st, RatioOk r
theorem at_two {a b r : Int} (h0 : 0 ≤ r) (h1 : r < 2) : atI [V.int a, V.int b] r = some (.int (if r = 0 then a else b)) := by
  have : r = 0 ∨ r = 1 := by omega
  rcases this with rfl | rfl
  · exact atI_nat (j := 0) rfl
  · exact atI_nat (j := 1) rfl
theorem sc__law_stock : FnScope ["_law_h", "_law_found", "_law_k", "_law_top", "_law_wide"] ["_law_h"] (defScope s__law_stock) := ⟨rfl, rfl, rfl, by decide +kernel, rfl, by decide +kernel, by decide +kernel⟩
def spStock (K : PySem.W.Frag) : Sp := fun vs H Q _ => ∃ (h : Addr), vs = [.ref h] ∧ Rng H h ∧ ∀ v H' st, Ex H H' → StkAt K H' v st → StockOk st → Q v H'
theorem ok__law_stock {f : Addr} {fd : FuncData} (F : Fun K "_law_stock" "_law_stock" s__law_stock f fd) (B : Blt mg) (c__law_next : Dn P w K mg base 1 "_law_next" spNext) : FnOk P w K mg base CX0 2 f fd ["_law_h"] (spStock K) := by
  have nd := sc__law_stock.nd
  refine F.ok sc__law_stock (fun vs H Q E h => ?_) (fun cdv A outer s H vs Q E hr h => ?_)
  · obtain ⟨h, rfl, _⟩ := h
    rfl
  · obtain ⟨h, rfl, hR, q⟩ := h
    refine ⟨_, 
    (pss_cons (ps_set (i := 1) nd rfl (Or.inl rfl) (pe_lstN pa_nil))
    (pss_cons (ps_for PassesOwn.never rfl (pi_range1 (by rfl) B.range (pa_cons (pe_op op_add pe_int (pe_d c__law_next hr (by decide) passL (by rfl) (pa_cons (pv 0) (pa_cons (pe_ix (ixl (K := K) rfl) (pe_lstN (pa_cons pe_int (pa_cons pe_int pa_nil))) (pe_d c__law_next hr (by decide) passL (by rfl) (pa_cons (pv 0) (pa_cons pe_int pa_nil))) (fun _ _ => rfl)) pa_nil)))) pa_nil)) (pg_name (i := 2) nd rfl (Or.inl rfl)) (pss_cons (ps_set (i := 3) nd rfl (Or.inl rfl) (pe_op op_add pe_int (pe_d c__law_next hr (by decide) passL (by rfl) (pa_cons (pv 0) (pa_cons (pe_ix (ixl (K := K) rfl) (pe_lstN (pa_cons pe_int (pa_cons pe_int pa_nil))) (pe_op op_fdiv (pe_d c__law_next hr (by decide) passL (by rfl) (pa_cons (pv 0) (pa_cons pe_int pa_nil))) pe_int) (fun _ _ => rfl)) pa_nil)))))
    (pss_cons (ps_set (i := 4) nd rfl (Or.inl rfl) (pe_op op_sub pe_int (pe_op op_mul pe_int (pv 3))))
    (pss_one (ps_expr (pe_bm PySem.F.plainAttrs_list PySem.F.slot_list_append PySem.F.type_list_append mt_append (pv 1) (pa_cons (pe_tupN (pa_cons (pv 3) (pa_cons (pe_op op_add (pe_op op_mul pe_int (pv 3)) (pe_d c__law_next hr (by decide) passL (by rfl) (pa_cons (pv 0) (pa_cons (pe_ix (ixl (K := K) rfl) (pe_lstN (pa_cons (pe_callB (call_min2 rfl) (by rfl) B.min bt_min (pa_cons pe_int (pa_cons (pv 4) pa_nil))) (pa_cons (pv 4) pa_nil))) (pe_d c__law_next hr (by decide) passL (by rfl) (pa_cons (pv 0) (pa_cons pe_int pa_nil))) (fun _ _ => rfl)) pa_nil)))) pa_nil))) pa_nil)))))))
    (pss_one (ps_ret (pv 1))))), ?_⟩
    try dsimp only [cxOf, Cx.nox, Cx.wish]
    walk_at "go"
    refine nL_intro fun L H1 nL e1 hL => ?_
    walk_at "go"
    refine nL_intro fun p1 H2 n2 e2 hp1 => ?_
    walk_at "go"
    refine ⟨by walk_at "seq", by omega, by omega, fun r1 H3 a1 b1 e3 => ?_⟩
    walk_at "go"
    refine ⟨p1, _, r1, _, rfl, rfl, .of (e3 _ _ hp1), at_two a1 b1, ?_⟩
    walk_at "go"
    refine ⟨by walk_at "seq", by split <;> omega, by split <;> omega, fun r2 H4 a2 b2 e4 => ?_⟩
    have b2 : r2 < 5 := Int.lt_of_lt_of_le b2 (by split <;> omega)
    walk_at "go"
    have hL4 : H4 L = some (.lst []) := by walk_at "seq"
    have e04 : Ex H H4 := by walk_at "ex"
    refine for_range (fun i σ H' => ∃ (ps : List Addr) (st : List (Int × Int)) (y2 y3 y4 : Option V), σ = [some (.ref h), some (.ref L), y2, y3, y4] ∧ Ex H H' ∧ H' L = some (.lst (ps.map V.ref)) ∧ ps.length = i ∧ st.length = i ∧ (∀ r ∈ st, RatioOk r) ∧
        (∀ (j : Nat) (p : Addr) (r : Int × Int), ps[j]? = some p → st[j]? = some r → H' p = some (.tup [.int r.1, .int r.2])))
      ⟨[], [], _, _, _, rfl, e04, hL4, rfl, rfl, fun r hr => (nomatch hr), fun j p r hp => (nomatch hp)⟩ ?_ ?_
    · rintro i σ H5 hi ⟨ps, st, y2, y3, y4, rfl, e5, hL5, l1, l2, hok, hst⟩
      have hi : i < 6 := by omega
      walk_at "go"
      refine nL_intro fun p3 H6 n6 e6 hp3 => ?_
      walk_at "go"
      refine ⟨by walk_at "seq", by omega, by omega, fun r3 H7 a3 b3 e7 => ?_⟩
      walk_at "go"
      refine ⟨p3, _, r3 / 2, _, rfl, rfl, .of (e7 _ _ hp3), at_two (by omega) (by omega), ?_⟩
      walk_at "go"
      refine ⟨by walk_at "seq", by split <;> omega, by split <;> omega, fun r4 H8 a4 b4 e8 => ?_⟩
      have b4 : r4 < 6 := Int.lt_of_lt_of_le b4 (by split <;> omega)
      walk_at "go"
      have hL8 : H8 L = some (.lst (ps.map V.ref)) := by walk_at "seq"
      refine ⟨.inl ⟨rfl, _, .of hL8⟩, ?_⟩
      walk_at "go"
      refine nL_intro fun p5 H9 n9 e9 hp5 => ?_
      walk_at "go"
      refine ⟨by walk_at "seq", by omega, by omega, fun r5 HA a5 b5 eA => ?_⟩
      walk_at "go"
      refine ⟨p5, _, r5, _, rfl, rfl, .of (eA _ _ hp5), at_two a5 b5, ?_⟩
      walk_at "go"
      have hX : 0 < (if r5 = 0 then if 13 - 2 * (1 + r4) < 3 then 13 - 2 * (1 + r4) else 3 else 13 - 2 * (1 + r4)) ∧ (if r5 = 0 then if 13 - 2 * (1 + r4) < 3 then 13 - 2 * (1 + r4) else 3 else 13 - 2 * (1 + r4)) ≤ 13 - 2 * (1 + r4) := by
        split
        · split <;> omega
        · omega
      generalize (if r5 = 0 then if 13 - 2 * (1 + r4) < 3 then 13 - 2 * (1 + r4) else 3 else 13 - 2 * (1 + r4)) = X at hX ⊢
      obtain ⟨x1, x2⟩ := hX
      refine ⟨by walk_at "seq", x1, by omega, fun r6 HB a6 b6 eB => ?_⟩
      walk_at "go"
      refine nT_intro fun t HC nt eC ht => ?_
      have hLC : HC L = some (.lst (ps.map V.ref)) := eC _ _ (eB _ _ (eA _ _ (e9 _ _ hL8)))
      have e5C : Ex H5 HC := by walk_at "ex"
      have e0C : Ex H HC := e5.trans e5C
      refine ⟨L, _, _, rfl, rfl, hLC, ?_, ?_⟩
      · rw [List.length_map, l1]
        exact Nat.lt_of_lt_of_le (show i < 6 from hi) (by decide)
      refine ⟨ps ++ [t], st ++ [(1 + r4, 2 * (1 + r4) + r6)], _, _, _, rfl, ?_, ?_, by rw [List.length_append, l1]; rfl, by rw [List.length_append, l2]; rfl, fun r hr => ?_, fun j p r h1 h2 => ?_⟩
      · exact Ex.mut e0C nL
      · rw [List.map_append]
        exact upd_same
      · rcases List.mem_append.mp hr with hr | hr
        · exact hok r hr
        · rw [List.mem_singleton.mp hr]
          exact ⟨by show 1 ≤ 1 + r4; omega, by show 2 * (1 + r4) ≤ 2 * (1 + r4) + r6; omega, by show 2 * (1 + r4) + r6 ≤ 12; omega⟩
      · have key : HC p = some (.tup [.int r.1, .int r.2]) := by
          rw [List.getElem?_append] at h1 h2
          rw [l1] at h1
          rw [l2] at h2
          by_cases hj : j < i
          · rw [if_pos hj] at h1 h2
            exact e5C _ _ (hst j p r h1 h2)
          · rw [if_neg hj] at h1 h2
            have hj2 : j - i = 0 := by
              have := (List.getElem?_eq_some_iff.mp h1).1
              rw [List.length_singleton] at this
              omega
            rw [hj2] at h1 h2
            cases h1
            cases h2
            exact ht
        rw [upd_ne ?_]
        · exact key
        · intro z
          rw [z, hLC] at key
          cases key
    · rintro σ H5 ⟨ps, st, y2, y3, y4, rfl, e5, hL5, l1, l2, hok, hst⟩
      walk_at "go"
      refine q _ _ st e5 ⟨L, ps, rfl, .of hL5, by omega, fun j p r h1 h2 => .of (hst j p r h1 h2)⟩ ⟨by omega, by omega, hok⟩
def evenTo (p q i : Nat) : List Bool := (List.range q).map fun place => (List.range i).any fun k => k * q / p == place
def sB (b : Bool) : V := .str ⟨#[bitC b]⟩
theorem sB_one : V.str (Str.ofString "1") = sB true := by decide +kernel
theorem sB_nought : V.str (Str.ofString "0") = sB false := by decide +kernel
theorem evenTo_zero (p q : Nat) : evenTo p q 0 = List.replicate q false := by
  unfold evenTo
  simp [List.map_const']
theorem evenTo_succ (p q i : Nat) (h : i * q / p < q) : (evenTo p q i).set (i * q / p) true = evenTo p q (i + 1) := by
  unfold evenTo
  refine List.ext_getElem (by simp) fun j h1 h2 => ?_
  simp only [List.length_set, List.length_map, List.length_range] at h1
  rw [List.getElem_set]
  simp only [List.getElem_map, List.getElem_range, List.range_succ, List.any_append, List.any_cons, List.any_nil, Bool.or_false]
  by_cases e : i * q / p = j
  · simp [e]
  · simp [e]
theorem bits_map (bits : List Bool) : bits.map sB = (bits.map fun b => (⟨#[bitC b]⟩ : Str)).map V.str := by
  rw [List.map_map]
  rfl
def spEven : Sp := fun vs H Q _ => ∃ (p q : Nat), vs = [.int (p : Int), .int (q : Int)] ∧ p ≤ q ∧ q ≤ 12 ∧ ∀ H', Ex H H' → Q (.str (bitsStr (evenBits p q))) H'
theorem sc_is_ratio : FnScope ["ratio"] ["ratio"] (defScope s_is_ratio) := ⟨rfl, rfl, rfl, by decide +kernel, rfl, by decide +kernel, by decide +kernel⟩
def spRatio (K : PySem.W.Frag) : Sp := fun vs H Q _ => ∃ (a : Addr) (x y : Int), vs = [.ref a] ∧ SqT K H a [.int x, .int y] ∧ Q (.bl (decide (1 ≤ x) && decide (x ≤ 12) && (decide (2 * x ≤ y) && decide (y ≤ 12)))) H
theorem ok_is_ratio {f : Addr} {fd : FuncData} (F : Fun K "is_ratio" "is_ratio" s_is_ratio f fd) (g_MOST_BOTTOM : ∃ u, mg "MOST_BOTTOM" = some u ∧ RelV (.int 12) u) (c_is_whole : Dn P w K mg base 1 "is_whole" (spWhole K)) : FnOk P w K mg base CX0 2 f fd ["ratio"] (spRatio K) := by
  have nd := sc_is_ratio.nd
  refine F.ok sc_is_ratio (fun vs H Q E h => ?_) (fun cdv A outer s H vs Q E hr h => ?_)
  · obtain ⟨a, x, y, rfl, _⟩ := h
    rfl
  · obtain ⟨a, x, y, rfl, hs, q⟩ := h
    refine ⟨_, 
    (pss_one (ps_ret (pe_and (pe_d c_is_whole hr (by decide) passL (by rfl) (pa_cons (pe_ix (ixt (K := K) rfl) (pv 0) pe_int (fun _ _ => rfl)) (pa_cons pe_int (pa_cons (pe_gl rfl g_MOST_BOTTOM) pa_nil)))) (pe_one (pe_d c_is_whole hr (by decide) passL (by rfl) (pa_cons (pe_ix (ixt (K := K) rfl) (pv 0) pe_int (fun _ _ => rfl)) (pa_cons (pe_op op_mul pe_int (pe_ix (ixt (K := K) rfl) (pv 0) pe_int (fun _ _ => rfl))) (pa_cons (pe_gl rfl g_MOST_BOTTOM) pa_nil)))))))), ?_⟩
    try dsimp only [cxOf, Cx.nox, Cx.wish]
    walk_at "go"
    refine ⟨.int x, .int x, 1, 12, rfl, .int x, ?_⟩
    refine ⟨_, rfl, ?_⟩
    have e1 : isWhole 1 12 (.int x) = (decide (1 ≤ x) && decide (x ≤ 12)) := rfl
    rw [e1]
    refine ite2 (fun c => ?_) (fun c => ?_)
    · rw [c, Bool.true_and] at q
      walk_at "go"
      exact ⟨.int y, .int y, 2 * x, 12, rfl, .int y, q⟩
    · rw [Bool.eq_false_iff.mpr c, Bool.false_and] at q
      exact q


theorem sc_reduced : FnScope ["top", "bottom", "common"] ["top", "bottom"] (defScope s_reduced) := ⟨rfl, rfl, rfl, by decide +kernel, rfl, by decide +kernel, by decide +kernel⟩
theorem ok_reduced {f : Addr} {fd : FuncData} (F : Fun K "reduced" "reduced" s_reduced f fd) (c_divisor : Dn P w K mg base 1 "divisor" spDivisor) : FnOk P w K mg base CX0 2 f fd ["top", "bottom"] spReduced := by
  have nd := sc_reduced.nd
  refine F.ok sc_reduced (fun vs H Q E h => ?_) (fun cdv A outer s H vs Q E hr h => ?_)
  · obtain ⟨x, y, rfl, _⟩ := h
    rfl
  · obtain ⟨x, y, rfl, hx, hy, g0, g1, q⟩ := h
    refine ⟨_, 
    (pss_cons (ps_set (i := 2) nd rfl (Or.inl rfl) (pe_d c_divisor hr (by decide) passL (by rfl) (pa_cons (pv 0) (pa_cons (pv 1) pa_nil))))
    (pss_one (ps_ret (pe_tupN (pa_cons (pe_op op_fdiv (pv 0) (pv 2)) (pa_cons (pe_op op_fdiv (pv 1) (pv 2)) pa_nil)))))), ?_⟩
    try dsimp only [cxOf, Cx.nox, Cx.wish]
    walk_at "go"
    exact q
def ratioB (r : Int × Int) : Bool := decide (1 ≤ r.1) && decide (r.1 ≤ 12) && (decide (2 * r.1 ≤ r.2) && decide (r.2 ≤ 12))
def stockB (st : List (Int × Int)) : Bool := decide (1 ≤ st.length) && decide (st.length ≤ 5) && st.all ratioB
theorem ratioB_ok {r : Int × Int} : ratioB r = true ↔ RatioOk r := by
  unfold ratioB
  simp only [Bool.and_eq_true, decide_eq_true_eq]
  constructor
  · rintro ⟨⟨h1, h2⟩, h3, h4⟩
    exact ⟨h1, h3, h4⟩
  · rintro ⟨h1, h3, h4⟩
    exact ⟨⟨h1, by omega⟩, h3, h4⟩
theorem stockB_ok {st : List (Int × Int)} (h : StockOk st) : stockB st = true := by
  unfold stockB
  rw [decide_eq_true h.lo, decide_eq_true h.hi]
  exact List.all_eq_true.mpr fun r hr => ratioB_ok.mpr (h.all r hr)
def pairD (r : Int × Int) : PyData := .tuple [.int r.1, .int r.2]
theorem pair_dp {H : Hp} {p : Addr} {r : Int × Int} (h : SqT K H p [.int r.1, .int r.2]) : Dp K H (.ref p) (pairD r) := .tup h (.cons (.int _) (.cons (.int _) .nil))
theorem pairs_shaped (l : List (Int × Int)) : SeqAt.shaped (.list (l.map pairD)) = true := by
  refine (shaped_of fun d hd => ?_).1
  obtain ⟨r, _, rfl⟩ := List.mem_map.mp hd
  refine ⟨?_, ?_⟩
  · simp [pairD, PyData.canLay0, PyData.canLayAll0]
  · simp [pairD, PyData.depth, PyData.depthAll]
theorem outs_pairs {H : Hp} {ps : List Addr} {st : List (Int × Int)} (hl : ps.length = st.length) (hr : ∀ (i : Nat) (p : Addr) (r : Int × Int), ps[i]? = some p → st[i]? = some r → SqT K H p [.int r.1, .int r.2]) :
    ∀ n, n ≤ st.length → DpAll K H (outs (fun i => (ps[i]?).bind fun p => (st[i]?).bind fun r => if (!ratioB r) = true then some (V.ref p) else none) n) (((st.take n).filter fun r => !ratioB r).map pairD) := by
  intro n
  induction n with
  | zero => intro _; exact .nil
  | succ n ih =>
    intro hn
    have hp : ps[n]? = some (ps[n]'(by omega)) := List.getElem?_eq_getElem (by omega)
    have hs : st[n]? = some (st[n]'(by omega)) := List.getElem?_eq_getElem (by omega)
    rw [outs_succ, List.take_add_one, List.filter_append, List.map_append, hs]
    refine dpAll_app (ih (by omega)) ?_
    rw [hp]
    show DpAll K H (Option.toList (if (!ratioB (st[n]'(by omega))) = true then some (V.ref (ps[n]'(by omega))) else none)) _
    cases hb : ratioB (st[n]'(by omega)) with
    | true => simp [hb]; exact .nil
    | false => simp [hb]; exact .cons (pair_dp (hr n _ _ hp hs)) .nil
theorem none_left : ∀ st : List (Int × Int), (List.map pairD (List.filter (fun r => !ratioB r) st)).isEmpty = st.all ratioB
  | [] => rfl
  | r :: t => by
    have ih := none_left t
    cases h : ratioB r
    · simp [h]
    · simp only [List.filter_cons, h, List.all_cons, Bool.not_true, Bool.true_and]
      exact ih
theorem sc_need_stock : FnScope ["stock", "ratio"] ["stock"] (defScope s_need_stock) := ⟨rfl, rfl, rfl, by decide +kernel, rfl, by decide +kernel, by decide +kernel⟩
def spNeedStock (K : PySem.W.Frag) (C : Addr) : Sp := fun vs H Q E => ∃ (v : V) (st : List (Int × Int)), vs = [v] ∧ StkAt K H v st ∧ st.length ≤ 1000 ∧ (stockB st = true → ∀ H', Ex H H' → Q .non H') ∧ (stockB st = false → ∀ H', Ex H H' → E (.ref C) none H')
theorem ok_need_stock {f C : Addr} {fd : FuncData} (F : Fun K "need_stock" "need_stock" s_need_stock f fd) (B : Blt mg) (T_BadStock : ExC K mg "BadStock" C) (g_MOST_RATIOS : ∃ u, mg "MOST_RATIOS" = some u ∧ RelV (.int 5) u)
    (c_is_ratio : Dn P w K mg base 2 "is_ratio" (spRatio K)) : FnOk P w K mg base (L2.CX P w) 3 f fd ["stock"] (spNeedStock K C) := by
  have nd := sc_need_stock.nd
  refine F.okX sc_need_stock (fun vs H Q E h => ?_) (fun cdv A outer s H vs Q E hr h => ?_)
  · obtain ⟨n, d, rfl, _⟩ := h
    rfl
  · obtain ⟨v, st, rfl, ⟨a, ps, rfl, hs, hl, hst⟩, hz, q1, q2⟩ := h
    refine ⟨_, 
    (pss_one (ps_if (PW.pt (pw_or (pt_not (pt_chain op_le op_le pe_int (pe_callB (lenK (K := K) rfl) (by rfl) B.len PySem.boot_len (pa_cons (pv 0) pa_nil)) (pe_gl rfl g_MOST_RATIOS))) (pw_or1 (pt_cmp (neNilD (K := K) rfl hr.units (pe_lc (own := [("ratio", 1)]) (g := gName 1) rfl nd (pi_list (pv 0)) (blkOk_by (N := ["stock", "ratio"]) (sc := defScope s_need_stock) (by decide +kernel)) (fun _ _ _ _ _ => pg_name (i := 1) nd rfl (Or.inl rfl)) (fun _ _ _ _ _ => (pts_one (pt_not (pt_val (pe_d c_is_ratio hr (by decide) passL (by rfl) (pa_cons (pv 1) pa_nil)))))) (fun _ _ _ _ _ => (pv 1)))))))) (pss_one (ps_raise rfl (takes_of rfl rfl rfl rfl) (pmk_own PySem.F.excBase_ValueError T_BadStock.q T_BadStock.gC T_BadStock.kC (raises_own T_BadStock.sB T_BadStock.tC) rfl))) pss_nil)), ?_⟩
    try dsimp only [cxOf, Cx.nox, Cx.wish]
    refine tIfS_cut (!stockB st) ?_ ?_
    · intro Q' hq
      unfold stockB at hq
      walk_at "go"
      rw [List.length_map, hl]
      refine ite2 (fun c => ?_) (fun c => ?_)
      · have c := of_decide_eq_true c
        rw [decide_eq_true (show 1 ≤ st.length by omega)] at hq
        walk_at "go"
        refine ite2 (fun c2 => ?_) (fun c2 => ?_)
        · have c2 := of_bnot c2
          rw [decide_eq_false (show ¬ st.length ≤ 5 by omega)] at hq
          exact hq _ (Ex.refl _)
        · have c2 := not_bnot c2
          rw [decide_eq_true (show st.length ≤ 5 by omega)] at hq
          walk_at "go"
          refine lc_out (fun i => (ps[i]?).bind fun p => (st[i]?).bind fun r => if (!ratioB r) = true then some (V.ref p) else none) (Goes.list hs) (by rw [List.length_map]; omega) ?_ ?_
          · rintro i y H' hi e hy R hR
            rw [List.length_map] at hi
            have hp : ps[i]? = some (ps[i]'(by omega)) := List.getElem?_eq_getElem (by omega)
            have hr2 : st[i]? = some (st[i]'(by omega)) := List.getElem?_eq_getElem (by omega)
            rw [List.getElem?_map, hp] at hy
            cases hy
            refine ⟨rfl, ?_⟩
            have hsq := e.sqT (hst i _ _ hp hr2)
            have hR2 : ∀ o H4, (if (!ratioB (st[i]'(by omega))) = true then some (V.ref (ps[i]'(by omega))) else none) = o → Ex H' H4 → R o H4 := fun o H4 ho e4 => hR o H4 (by rw [← ho, hp, hr2]; rfl) e4
            generalize st[i]'(by omega) = r at hsq hR2
            generalize ps[i]'(by omega) = pp at hsq hR2 ⊢
            walk_at "go"
            refine ⟨pp, r.1, r.2, rfl, hsq, ?_⟩
            walk_at "go"
            have hrb : (decide (1 ≤ r.1) && decide (r.1 ≤ 12) && (decide (2 * r.1 ≤ r.2) && decide (r.2 ≤ 12))) = ratioB r := rfl
            rw [hrb]
            refine ite2 (fun c3 => ?_) (fun c3 => ?_)
            · walk_at "go"
              exact hR2 _ _ (if_pos c3) (by walk_at "ex")
            · exact hR2 _ _ (if_neg c3) (by walk_at "ex")
          intro p2 H2 np2 e2 hp2
          rw [List.length_map, hl] at hp2
          have hda := outs_pairs hl (fun i p r h1 h2 => e2.sqT (hst i p r h1 h2)) st.length (Nat.le_refl _)
          rw [List.take_length] at hda
          walk_at "go"
          refine ⟨_, _, rfl, .lst (.of hp2) hda, pairs_shaped _, ?_⟩
          walk_at "go"
          have hall : (!(List.map pairD (List.filter (fun r => !ratioB r) st)).isEmpty) = !st.all ratioB := by
            rw [none_left]
          rw [hall]
          rw [Bool.true_and, Bool.true_and] at hq
          exact hq _ (by walk_at "ex")
      · have c := not_dec c
        rw [decide_eq_false (show ¬ 1 ≤ st.length by omega)] at hq
        walk_at "go"
        exact hq _ (Ex.refl _)
    intro H1 e1
    cases hb : stockB st with
    | true => exact q1 hb _ e1
    | false => exact q2 hb _ e1

def spMade (K : PySem.W.Frag) : Sp := fun vs H Q _ => ∃ (v : V) (st : List (Int × Int)) (b : Addr) (ns : List Int), vs = [v, .ref b] ∧ StkAt K H v st ∧ StockOk st ∧ SqL K H b (ns.map V.int) ∧ (∀ n ∈ ns, 0 ≤ n ∧ n < (st.length : Int)) ∧
  ∀ v' H', Ex H H' → Dp K H' v' (gates st ns).data → Q v' H'

/-! ### ratios of a stock: what comes of one more -/
def wishB (w : Int × Int) : Bool := decide (1 ≤ w.2) && decide (w.2 ≤ 5000) && (decide (1 ≤ w.1) && decide (w.1 ≤ w.2))
theorem sc_need_wish : FnScope ["wish"] ["wish"] (defScope s_need_wish) := ⟨rfl, rfl, rfl, by decide +kernel, rfl, by decide +kernel, by decide +kernel⟩
def spNeedWish (K : PySem.W.Frag) (C : Addr) : Sp := fun vs H Q E => ∃ (a : Addr) (r : Int × Int), vs = [.ref a] ∧ SqT K H a (prV r) ∧ (wishB r = true → ∀ H', Ex H H' → Q .non H') ∧ (wishB r = false → ∀ H', Ex H H' → E (.ref C) none H')
theorem ok_need_wish {f C : Addr} {fd : FuncData} (F : Fun K "need_wish" "need_wish" s_need_wish f fd) (T_BadStock : ExC K mg "BadStock" C) (g_MOST_WISHED : ∃ u, mg "MOST_WISHED" = some u ∧ RelV (.int 5000) u)
    (c_is_whole : Dn P w K mg base 1 "is_whole" (spWhole K)) : FnOk P w K mg base (L2.CX P w) 2 f fd ["wish"] (spNeedWish K C) := by
  have nd := sc_need_wish.nd
  refine F.okX sc_need_wish (fun vs H Q E h => ?_) (fun cdv A outer s H vs Q E hr h => ?_)
  · obtain ⟨n, d, rfl, _⟩ := h
    rfl
  · obtain ⟨a, ⟨x, y⟩, rfl, hs, q1, q2⟩ := h
    have hs : SqT K H a [.int x, .int y] := hs
    refine ⟨_, 
    (pss_one (ps_if (PW.pt (pw_or (pt_not (pt_val (pe_d c_is_whole hr (by decide) (passes_call (takes_of rfl rfl rfl rfl) fun _ _ _ _ h => h) (by rfl) (pa_cons (pe_ix (ixt (K := K) rfl) (pv 0) pe_int (fun _ _ => rfl)) (pa_cons pe_int (pa_cons (pe_gl rfl g_MOST_WISHED) pa_nil)))))) (pw_or1 (pt_not (pt_val (pe_d c_is_whole hr (by decide) (passes_call (takes_of rfl rfl rfl rfl) fun _ _ _ _ h => h) (by rfl) (pa_cons (pe_ix (ixt (K := K) rfl) (pv 0) pe_int (fun _ _ => rfl)) (pa_cons pe_int (pa_cons (pe_ix (ixt (K := K) rfl) (pv 0) pe_int (fun _ _ => rfl)) pa_nil))))))))) (pss_one (ps_raise rfl (takes_of rfl rfl rfl rfl) (pmk_own PySem.F.excBase_ValueError T_BadStock.q T_BadStock.gC T_BadStock.kC (raises_own T_BadStock.sB T_BadStock.tC) rfl))) pss_nil)), ?_⟩
    try dsimp only [cxOf, Cx.nox, Cx.wish]
    refine tIfS_cut (!wishB (x, y)) ?_ ?_
    · intro Q' hq
      unfold wishB at hq
      walk_at "go"
      refine ⟨.int y, .int y, 1, 5000, rfl, .int y, ?_⟩
      rw [show isWhole 1 5000 (.int y) = (decide (1 ≤ y) && decide (y ≤ 5000)) from rfl]
      simp only at hq
      cases c : (decide (1 ≤ y) && decide (y ≤ 5000)) with
      | false =>
        rw [c] at hq
        walk_at "go"
        exact hq _ (Ex.refl _)
      | true =>
        rw [c] at hq
        walk_at "go"
        refine ⟨.int x, .int x, 1, y, rfl, .int x, ?_⟩
        rw [show isWhole 1 y (.int x) = (decide (1 ≤ x) && decide (x ≤ y)) from rfl]
        walk_at "go"
        exact hq _ (Ex.refl _)
    intro H1 e1
    cases hb : wishB (x, y) with
    | true => exact q1 hb _ e1
    | false => exact q2 hb _ e1
theorem sc_product : FnScope ["one", "other"] ["one", "other"] (defScope s_product) := ⟨rfl, rfl, rfl, by decide +kernel, rfl, by decide +kernel, by decide +kernel⟩
structure MulOk (r t : Int × Int) : Prop where
  r1 : 0 ≤ r.1 ∧ r.1 < 18446744073709551616
  r2 : 0 ≤ r.2 ∧ r.2 < 18446744073709551616
  t1 : 0 ≤ t.1
  t2 : 0 ≤ t.2
  g0 : 0 < gcdZ (r.1 * t.1) (r.2 * t.2)
  g1 : gcdZ (r.1 * t.1) (r.2 * t.2) < 1073741824
def spProduct (K : PySem.W.Frag) : Sp := fun vs H Q _ => ∃ (a b : Addr) (r t : Int × Int), vs = [.ref a, .ref b] ∧ SqT K H a (prV r) ∧ SqT K H b (prV t) ∧ MulOk r t ∧ nT H (prV (prodR r t)) Q
theorem ok_product {f : Addr} {fd : FuncData} (F : Fun K "product" "product" s_product f fd) (c_reduced : Dn P w K mg base 2 "reduced" spReduced) : FnOk P w K mg base CX0 3 f fd ["one", "other"] (spProduct K) := by
  have nd := sc_product.nd
  refine F.ok sc_product (fun vs H Q E h => ?_) (fun cdv A outer s H vs Q E hr h => ?_)
  · obtain ⟨a, b, r, t, rfl, _⟩ := h
    rfl
  · obtain ⟨a, b, ⟨x, y⟩, ⟨p, q⟩, rfl, hs, ht, M, qq⟩ := h
    have hs : SqT K H a [.int x, .int y] := hs
    have ht : SqT K H b [.int p, .int q] := ht
    obtain ⟨m1, m2, m3, m4, m5, m6⟩ := M
    simp only at m1 m2 m3 m4 m5 m6
    have n1 : 0 ≤ x * p := Int.mul_nonneg m1.1 m3
    have n2 : 0 ≤ y * q := Int.mul_nonneg m2.1 m4
    refine ⟨_, 
    (pss_one (ps_ret (pe_d c_reduced hr (by decide) passL (by rfl) (pa_cons (pe_op op_mul (pe_ix (ixt (K := K) rfl) (pv 0) pe_int (fun _ _ => rfl)) (pe_ix (ixt (K := K) rfl) (pv 1) pe_int (fun _ _ => rfl))) (pa_cons (pe_op op_mul (pe_ix (ixt (K := K) rfl) (pv 0) pe_int (fun _ _ => rfl)) (pe_ix (ixt (K := K) rfl) (pv 1) pe_int (fun _ _ => rfl))) pa_nil))))), ?_⟩
    try dsimp only [cxOf, Cx.nox, Cx.wish]
    walk_at "go"
    exact qq
theorem sc_is_less : FnScope ["one", "other"] ["one", "other"] (defScope s_is_less) := ⟨rfl, rfl, rfl, by decide +kernel, rfl, by decide +kernel, by decide +kernel⟩
def spLess (K : PySem.W.Frag) : Sp := fun vs H Q _ => ∃ (a b : Addr) (r t : Int × Int), vs = [.ref a, .ref b] ∧ SqT K H a (prV r) ∧ SqT K H b (prV t) ∧ (-18446744073709551616 < t.1 ∧ t.1 < 18446744073709551616) ∧ (-18446744073709551616 < t.2 ∧ t.2 < 18446744073709551616) ∧ Q (.bl (lessR r t)) H
theorem ok_is_less {f : Addr} {fd : FuncData} (F : Fun K "is_less" "is_less" s_is_less f fd) : FnOk P w K mg base CX0 1 f fd ["one", "other"] (spLess K) := by
  have nd := sc_is_less.nd
  refine F.ok sc_is_less (fun vs H Q E h => ?_) (fun cdv A outer s H vs Q E hr h => ?_)
  · obtain ⟨a, b, r, t, rfl, _⟩ := h
    rfl
  · obtain ⟨a, b, ⟨x, y⟩, ⟨p, q⟩, rfl, hs, ht, b1, b2, qq⟩ := h
    have hs : SqT K H a [.int x, .int y] := hs
    have ht : SqT K H b [.int p, .int q] := ht
    simp only at b1 b2
    refine ⟨_, 
    (pss_one (ps_ret (pe_cmpR op_lt (pe_op op_mul (pe_ix (ixt (K := K) rfl) (pv 0) pe_int (fun _ _ => rfl)) (pe_ix (ixt (K := K) rfl) (pv 1) pe_int (fun _ _ => rfl))) (pe_op op_mul (pe_ix (ixt (K := K) rfl) (pv 1) pe_int (fun _ _ => rfl)) (pe_ix (ixt (K := K) rfl) (pv 0) pe_int (fun _ _ => rfl))) (nomark _)))), ?_⟩
    try dsimp only [cxOf, Cx.nox, Cx.wish]
    walk_at "go"
    exact qq
/-- a new list of pairs -/
def nP (H : Hp) (rs : List (Int × Int)) (Q : VK) : Prop := ∀ p H2 as, H p = none → Ex H H2 → H2 p = some (.lst (as.map V.ref)) → PairsAt H2 as rs → Q (.ref p) H2
theorem nP_intro {H : Hp} {rs : List (Int × Int)} {Q : VK} (h : ∀ p H2 as, H p = none → Ex H H2 → H2 p = some (.lst (as.map V.ref)) → PairsAt H2 as rs → Q (.ref p) H2) : nP H rs Q := h
/-- a list of pairs to be read -/
def PrsL (K : PySem.W.Frag) (H : Hp) (a : Addr) (rs : List (Int × Int)) : Prop := ∃ ps : List Addr, SqL K H a (ps.map V.ref) ∧ Paired (fun p r => SqT K H p (prV r)) ps rs
theorem PrsL.ext {H H' : Hp} {a : Addr} {rs : List (Int × Int)} (h : PrsL K H a rs) (e : Ex H H') : PrsL K H' a rs := by
  obtain ⟨ps, h1, h2⟩ := h
  exact ⟨ps, e.sqL h1, Paired.mapP h2 fun _ _ q => e.sqT q⟩
theorem PrsL.of {H : Hp} {a : Addr} {ps : List Addr} {rs : List (Int × Int)} (h : H a = some (.lst (ps.map V.ref))) (hp : PairsAt H ps rs) : PrsL K H a rs := ⟨ps, .of h, Paired.mapP hp fun _ _ q => .of q⟩
theorem paired_at {α β : Type} {F : α → β → Prop} : ∀ {l : List α} {r : List β}, Paired F l r → ∀ {i : Nat} {x : α}, l[i]? = some x → ∃ y, r[i]? = some y ∧ F x y
  | _, _, .nil, _, _, h => by cases h
  | _, _, .cons h _, 0, _, e => by cases e; exact ⟨_, rfl, h⟩
  | _, _, .cons _ t, i + 1, _, e => paired_at t (i := i) e
theorem StkAt.prs {H : Hp} {v : V} {st : List (Int × Int)} (h : StkAt K H v st) : ∃ a, v = .ref a ∧ PrsL K H a st := by
  obtain ⟨a, ps, ev, hs, hl, hp⟩ := h
  exact ⟨a, ev, ps, hs, paired_of hl hp⟩
theorem PrsL.dp {H : Hp} {a : Addr} {rs : List (Int × Int)} (h : PrsL K H a rs) : Dp K H (.ref a) (.list (rs.map pairD)) := by
  obtain ⟨ps, h1, h2⟩ := h
  refine .lst h1 ?_
  clear h1
  induction h2 with
  | nil => exact .nil
  | cons q _ ih => exact .cons (pair_dp q) ih
theorem pairD_eqv (a b : Int × Int) : PyData.eqv (pairD a) (pairD b) = decide (a = b) := by
  obtain ⟨x, y⟩ := a
  obtain ⟨p, q⟩ := b
  have e : PyData.eqv (pairD (x, y)) (pairD (p, q)) = ((x == p) && ((y == q) && true)) := by simp only [pairD, PyData.eqv, PyData.eqvAll]
  rw [e]
  by_cases h1 : x = p
  · by_cases h2 : y = q
    · simp [h1, h2]
    · simp [h1, h2]
  · simp [h1]
theorem pairsD_eqv : ∀ l m : List (Int × Int), PyData.eqv (.list (l.map pairD)) (.list (m.map pairD)) = decide (l = m) := by
  have all : ∀ l m : List (Int × Int), PyData.eqvAll (l.map pairD) (m.map pairD) = decide (l = m) := by
    intro l
    induction l with
    | nil => intro m; cases m <;> simp [PyData.eqvAll]
    | cons a r ih =>
      intro m
      cases m with
      | nil => simp [PyData.eqvAll]
      | cons b t =>
        simp only [List.map_cons, PyData.eqvAll, ih t, pairD_eqv]
        by_cases h1 : a = b <;> by_cases h2 : r = t <;> simp [h1, h2]
  intro l m
  rw [PyData.eqv, all]
theorem pairD_any (g : Int × Int) (l : List (Int × Int)) : ((l.map pairD).any fun z => PyData.eqv z (pairD g)) = decide (g ∈ l) := by
  induction l with
  | nil => rfl
  | cons a r ih =>
    rw [List.map_cons, List.any_cons, ih, pairD_eqv]
    by_cases h1 : a = g
    · simp [h1]
    · have h2 : ¬ g = a := fun z => h1 z.symm
      simp [h1, h2]
theorem pairD_shaped (g : Int × Int) : SeqAt.shaped (pairD g) = true := by
  refine shaped_iff.mpr ⟨?_, ?_⟩
  · simp [pairD, PyData.canLay0, PyData.canLayAll0]
  · simp [pairD, PyData.depth, PyData.depthAll]
theorem sc_level_behind : FnScope ["stock", "level", "goal", "found", "one", "ratio"] ["stock", "level", "goal"] (defScope s_level_behind) := ⟨rfl, rfl, rfl, by decide +kernel, rfl, by decide +kernel, by decide +kernel⟩
/-- a level behind another one -/
def spLevel (K : PySem.W.Frag) : Sp := fun vs H Q _ => ∃ (a b g : Addr) (st level : List (Int × Int)) (goal : Int × Int), vs = [.ref a, .ref b, .ref g] ∧ PrsL K H a st ∧ PrsL K H b level ∧ SqT K H g (prV goal) ∧ st.length ≤ 1000 ∧ level.length ≤ 1000000 ∧
  (∀ x ∈ level, ∀ r ∈ st, MulOk x r) ∧ (0 < goal.1 ∧ goal.1 ≤ 5000) ∧ (0 < goal.2 ∧ goal.2 ≤ 5000) ∧ (levelR st level goal).length ≤ 500000 ∧ nP H (levelR st level goal) Q
theorem dict_len {ks l : List (Int × Int)} {n : Nat} (hn : ks.Nodup) (h : ∀ x ∈ ks, x ∈ l) (hl : (sortR l).length ≤ n) : ks.length ≤ n := Nat.le_trans (nodup_sub hn fun x hx => sortR_mem.mpr (h x hx)) hl
theorem madeR_take {st level : List (Int × Int)} {goal x : Int × Int} {i : Nat} (h : x ∈ madeR st (level.take i) goal) : x ∈ madeR st level goal := by
  obtain ⟨one, h1, r⟩ := madeR_mem.mp h
  exact madeR_mem.mpr ⟨one, List.mem_of_mem_take h1, r⟩
theorem made_step {A : Prop} {one r x goal : Int × Int} {l : List (Int × Int)} (c : lessR (prodR one r) goal = false) : ((A ∨ ∃ r' ∈ l, x = prodR one r' ∧ lessR x goal = false) ∨ x = prodR one r) ↔ (A ∨ ∃ r' ∈ l ++ (some r).toList, x = prodR one r' ∧ lessR x goal = false) := by
  constructor
  · rintro ((h | ⟨r', h1, h2⟩) | rfl)
    · exact .inl h
    · exact .inr ⟨r', List.mem_append_left _ h1, h2⟩
    · exact .inr ⟨r, List.mem_append_right _ (List.mem_singleton.mpr rfl), rfl, c⟩
  · rintro (h | ⟨r', h1, h2, h3⟩)
    · exact .inl (.inl h)
    · rcases List.mem_append.mp h1 with h1 | h1
      · exact .inl (.inr ⟨r', h1, h2, h3⟩)
      · have h1 : r' = r := by simpa using h1
        rw [h1] at h2
        exact .inr h2
theorem made_skip {A : Prop} {one r x goal : Int × Int} {l : List (Int × Int)} (c : lessR (prodR one r) goal = true) : (A ∨ ∃ r' ∈ l, x = prodR one r' ∧ lessR x goal = false) ↔ (A ∨ ∃ r' ∈ l ++ (some r).toList, x = prodR one r' ∧ lessR x goal = false) := by
  constructor
  · rintro (h | ⟨r', h1, h2⟩)
    · exact .inl h
    · exact .inr ⟨r', List.mem_append_left _ h1, h2⟩
  · rintro (h | ⟨r', h1, h2, h3⟩)
    · exact .inl h
    · rcases List.mem_append.mp h1 with h1 | h1
      · exact .inr ⟨r', h1, h2, h3⟩
      · have h1 : r' = r := by simpa using h1
        rw [h1] at h2
        rw [h2, c] at h3
        cases h3
theorem ok_level_behind {f : Addr} {fd : FuncData} (F : Fun K "level_behind" "level_behind" s_level_behind f fd) (B : Blt mg) (c_product : Dn P w K mg base 3 "product" (spProduct K)) (c_is_less : Dn P w K mg base 1 "is_less" (spLess K)) :
    FnOk P w K mg base CX0 4 f fd ["stock", "level", "goal"] (spLevel K) := by
  have nd := sc_level_behind.nd
  refine F.ok sc_level_behind (fun vs H Q E h => ?_) (fun cdv A outer s H vs Q E hr h => ?_)
  · obtain ⟨_, _, _, _, _, _, rfl, _⟩ := h
    rfl
  · obtain ⟨a, b, g, st, level, goal, rfl, ⟨ps, hs, hps⟩, ⟨qs, hq, hqs⟩, hg, z1, z2, hmul, g1, g2, hlen, q⟩ := h
    refine ⟨_, 
    (pss_cons (ps_set (i := 3) nd rfl (Or.inl rfl) pe_dnewT)
    (pss_cons (ps_for PassesOwn.never rfl (pi_list (pv 1)) (pg_name (i := 4) nd rfl (Or.inl rfl)) (pss_one (ps_for PassesOwn.never rfl (pi_list (pv 0)) (pg_name (i := 5) nd rfl (Or.inl rfl)) (pss_one (ps_if (pt_not (pt_val (pe_d c_is_less hr (by decide) passL (by rfl) (pa_cons (pe_d c_product hr (by decide) passL (by rfl) (pa_cons (pv 4) (pa_cons (pv 5) pa_nil))) (pa_cons (pv 2) pa_nil))))) (pss_one (ps_dput (hu_of hr) (pv 3) (pe_d c_product hr (by decide) passL (by rfl) (pa_cons (pv 4) (pa_cons (pv 5) pa_nil))) pe_bl rfl)) pss_nil)))))
    (pss_one (ps_ret (pe_callB (sortDT rfl) (by rfl) B.sorted bt_sorted (pa_cons (pv 3) pa_nil)))))), ?_⟩
    try dsimp only [cxOf, Cx.nox, Cx.wish]
    walk_at "norm"
    intro d nd0
    have e1 : Ex H (upd H d (.dT [])) := Ex.new nd0
    have hd1 : upd H d (.dT []) d = some (.dT (([] : List (Int × Int)).map entR)) := upd_same
    generalize upd H d (.dT []) = H1 at e1 hd1 ⊢
    walk_at "go"
    refine for_list (K := K) (a := b) (xs := qs.map V.ref) (fun i σ H' => ∃ (ks : List (Int × Int)) (y4 y5 : Option V), σ = [some (.ref a), some (.ref b), some (.ref g), some (.ref d), y4, y5] ∧ Ex H H' ∧ H' d = some (.dT (ks.map entR)) ∧ ks.Nodup ∧ ∀ x, x ∈ ks ↔ x ∈ madeR st (level.take i) goal)
      ⟨[], _, _, rfl, e1, hd1, List.nodup_nil, fun x => by simp [madeR]⟩ (fun i σ H' _ ⟨_, _, _, _, e, _⟩ => e.sqL hq) ?_ ?_
    · rintro i x σ H' hi ⟨ks, y4, y5, rfl, e, hd, hn, hk⟩
      rw [List.getElem?_map] at hi
      obtain ⟨p1, hp1, rfl⟩ := Option.map_eq_some_iff.mp hi
      obtain ⟨one, hone, hsq1⟩ := paired_at hqs hp1
      walk_at "go"
      refine for_list (K := K) (a := a) (xs := ps.map V.ref) (fun j σ H' => ∃ (ks : List (Int × Int)) (y5 : Option V), σ = [some (.ref a), some (.ref b), some (.ref g), some (.ref d), some (.ref p1), y5] ∧ Ex H H' ∧ H' d = some (.dT (ks.map entR)) ∧ ks.Nodup ∧
          ∀ x, x ∈ ks ↔ x ∈ madeR st (level.take i) goal ∨ ∃ r ∈ st.take j, x = prodR one r ∧ lessR x goal = false)
        ⟨ks, _, rfl, e, hd, hn, fun x => by rw [hk x]; simp⟩ (fun i σ H' _ ⟨_, _, _, e, _⟩ => e.sqL hs) ?_ ?_
      · rintro j x σ H' hj ⟨ks, y5, rfl, e, hd, hn, hk⟩
        rw [List.getElem?_map] at hj
        obtain ⟨p2, hp2, rfl⟩ := Option.map_eq_some_iff.mp hj
        obtain ⟨r, hr2, hsq2⟩ := paired_at hps hp2
        have M := hmul one (List.mem_of_getElem? hone) r (List.mem_of_getElem? hr2)
        walk_at "go"
        refine ⟨p1, p2, one, r, rfl, e.sqT hsq1, e.sqT hsq2, M, ?_⟩
        refine nT_intro fun t H4 nt e4 ht => ?_
        walk_at "go"
        refine ⟨t, g, prodR one r, goal, rfl, .of ht, (e.trans e4).sqT hg, by omega, by omega, ?_⟩
        walk_at "go"
        have hd4 := e4 _ _ hd
        refine ite2 (fun c => ?_) (fun c => ?_)
        · have c : lessR (prodR one r) goal = false := by simpa using c
          walk_at "go"
          refine ⟨p1, p2, one, r, rfl, (e.trans e4).sqT hsq1, (e.trans e4).sqT hsq2, M, ?_⟩
          refine nT_intro fun t2 H5 nt2 e5 ht2 => ?_
          walk_at "go"
          have hd5 := e5 _ _ hd4
          have hlt : ks.length ≤ 500000 := dict_len hn (fun x hx => ?_) hlen
          · refine ⟨d, _, rfl, DPut.t (k := kR (prodR one r)) hd5 ht2 (by rw [List.length_map, sizeLine_eq]; omega), ?_⟩
            rw [putR]
            refine ⟨addR ks (prodR one r), _, rfl, Ex.mut (e.trans (e4.trans e5)) nd0, upd_same, addR_nodup hn, fun x => ?_⟩
            rw [addR_mem, hk x, List.take_add_one, hr2]
            exact made_step c
          · rcases (hk x).mp hx with h | ⟨r', h1, h2, h3⟩
            · exact madeR_take h
            · exact madeR_mem.mpr ⟨one, List.mem_of_getElem? hone, r', List.mem_of_mem_take h1, h2, h3⟩
        · have c : lessR (prodR one r) goal = true := by simpa using c
          refine ⟨ks, _, rfl, e.trans e4, hd4, hn, fun x => ?_⟩
          rw [hk x, List.take_add_one, hr2]
          exact made_skip c
      · rintro σ H' ⟨ks, y5, rfl, e, hd, hn, hk⟩
        rw [List.length_map, Paired.length hps, List.take_length] at hk
        refine ⟨ks, _, _, rfl, e, hd, hn, fun x => ?_⟩
        rw [hk x, madeR_mem, madeR_mem, List.take_add_one, hone]
        constructor
        · rintro (⟨o, h1, h2⟩ | h)
          · exact ⟨o, List.mem_append_left _ h1, h2⟩
          · exact ⟨one, List.mem_append_right _ (List.mem_singleton.mpr rfl), h⟩
        · rintro ⟨o, h1, h2⟩
          rcases List.mem_append.mp h1 with h1 | h1
          · exact .inl ⟨o, h1, h2⟩
          · have h1 : o = one := by simpa using h1
            rw [h1] at h2
            exact .inr h2
    · rintro σ H' ⟨ks, y4, y5, rfl, e, hd, hn, hk⟩
      rw [List.length_map, Paired.length hqs, List.take_length] at hk
      walk_at "go"
      refine ⟨by have := dict_len hn (fun x hx => (hk x).mp hx) hlen; omega, fun p H2 as np e2 hp hpa => ?_⟩
      have hsame : sortR ks = levelR st level goal := ascR_uniq (sortR_asc _) (sortR_asc _) fun x => by
        rw [sortR_mem]
        exact (hk x).trans sortR_mem.symm
      rw [hsame] at hpa
      exact q _ _ as (e.back np) (e.trans e2) hp hpa
theorem sc__law_level : FnScope ["_law_stock_here", "_law_level_here", "_law_goal", "_law_found", "_law_one", "_law_ratio", "_law_more"] ["_law_stock_here", "_law_level_here", "_law_goal"] (defScope s__law_level) := ⟨rfl, rfl, rfl, by decide +kernel, rfl, by decide +kernel, by decide +kernel⟩
theorem ok__law_level {f : Addr} {fd : FuncData} (F : Fun K "_law_level" "_law_level" s__law_level f fd) (B : Blt mg) (c__law_reduced : Dn P w K mg base 2 "_law_reduced" spReduced) :
    FnOk P w K mg base CX0 3 f fd ["_law_stock_here", "_law_level_here", "_law_goal"] (spLevel K) := by
  have nd := sc__law_level.nd
  refine F.ok sc__law_level (fun vs H Q E h => ?_) (fun cdv A outer s H vs Q E hr h => ?_)
  · obtain ⟨_, _, _, _, _, _, rfl, _⟩ := h
    rfl
  · obtain ⟨a, b, g, st, level, goal, rfl, ⟨ps, hs, hps⟩, ⟨qs, hq, hqs⟩, hg, z1, z2, hmul, g1, g2, hlen, q⟩ := h
    refine ⟨_, 
    (pss_cons (ps_set (i := 3) nd rfl (Or.inl rfl) pe_dnewT)
    (pss_cons (ps_for PassesOwn.never rfl (pi_list (pv 1)) (pg_name (i := 4) nd rfl (Or.inl rfl)) (pss_one (ps_for PassesOwn.never rfl (pi_list (pv 0)) (pg_name (i := 5) nd rfl (Or.inl rfl)) (pss_cons (ps_set (i := 6) nd rfl (Or.inl rfl) (pe_d c__law_reduced hr (by decide) passL (by rfl) (pa_cons (pe_op op_mul (pe_ix (ixt (K := K) rfl) (pv 4) pe_int (fun _ _ => rfl)) (pe_ix (ixt (K := K) rfl) (pv 5) pe_int (fun _ _ => rfl))) (pa_cons (pe_op op_mul (pe_ix (ixt (K := K) rfl) (pv 4) pe_int (fun _ _ => rfl)) (pe_ix (ixt (K := K) rfl) (pv 5) pe_int (fun _ _ => rfl))) pa_nil))))
    (pss_one (ps_if (pt_cmpR op_ge (pe_op op_mul (pe_ix (ixt (K := K) rfl) (pv 6) pe_int (fun _ _ => rfl)) (pe_ix (ixt (K := K) rfl) (pv 2) pe_int (fun _ _ => rfl))) (pe_op op_mul (pe_ix (ixt (K := K) rfl) (pv 2) pe_int (fun _ _ => rfl)) (pe_ix (ixt (K := K) rfl) (pv 6) pe_int (fun _ _ => rfl))) (nomark _)) (pss_one (ps_dput (hu_of hr) (pv 3) (pv 6) pe_bl rfl)) pss_nil))))))
    (pss_one (ps_ret (pe_callB (sortDT rfl) (by rfl) B.sorted bt_sorted (pa_cons (pv 3) pa_nil)))))), ?_⟩
    try dsimp only [cxOf, Cx.nox, Cx.wish]
    walk_at "norm"
    intro d nd0
    have e1 : Ex H (upd H d (.dT [])) := Ex.new nd0
    have hd1 : upd H d (.dT []) d = some (.dT (([] : List (Int × Int)).map entR)) := upd_same
    generalize upd H d (.dT []) = H1 at e1 hd1 ⊢
    walk_at "go"
    refine for_list (K := K) (a := b) (xs := qs.map V.ref) (fun i σ H' => ∃ (ks : List (Int × Int)) (y4 y5 y6 : Option V), σ = [some (.ref a), some (.ref b), some (.ref g), some (.ref d), y4, y5, y6] ∧ Ex H H' ∧ H' d = some (.dT (ks.map entR)) ∧ ks.Nodup ∧ ∀ x, x ∈ ks ↔ x ∈ madeR st (level.take i) goal)
      ⟨[], _, _, _, rfl, e1, hd1, List.nodup_nil, fun x => by simp [madeR]⟩ (fun i σ H' _ ⟨_, _, _, _, _, e, _⟩ => e.sqL hq) ?_ ?_
    · rintro i x σ H' hi ⟨ks, y4, y5, y6, rfl, e, hd, hn, hk⟩
      rw [List.getElem?_map] at hi
      obtain ⟨p1, hp1, rfl⟩ := Option.map_eq_some_iff.mp hi
      obtain ⟨one, hone, hsq1⟩ := paired_at hqs hp1
      walk_at "go"
      refine for_list (K := K) (a := a) (xs := ps.map V.ref) (fun j σ H' => ∃ (ks : List (Int × Int)) (y5 y6 : Option V), σ = [some (.ref a), some (.ref b), some (.ref g), some (.ref d), some (.ref p1), y5, y6] ∧ Ex H H' ∧ H' d = some (.dT (ks.map entR)) ∧ ks.Nodup ∧
          ∀ x, x ∈ ks ↔ x ∈ madeR st (level.take i) goal ∨ ∃ r ∈ st.take j, x = prodR one r ∧ lessR x goal = false)
        ⟨ks, _, _, rfl, e, hd, hn, fun x => by rw [hk x]; simp⟩ (fun i σ H' _ ⟨_, _, _, _, e, _⟩ => e.sqL hs) ?_ ?_
      · rintro j x σ H' hj ⟨ks, y5, y6, rfl, e, hd, hn, hk⟩
        rw [List.getElem?_map] at hj
        obtain ⟨p2, hp2, rfl⟩ := Option.map_eq_some_iff.mp hj
        obtain ⟨r, hr2, hsq2⟩ := paired_at hps hp2
        obtain ⟨m1, m2, m3, m4, m5, m6⟩ := hmul one (List.mem_of_getElem? hone) r (List.mem_of_getElem? hr2)
        have n1 : 0 ≤ one.1 * r.1 := Int.mul_nonneg m1.1 m3
        have n2 : 0 ≤ one.2 * r.2 := Int.mul_nonneg m2.1 m4
        have hsq1 : SqT K H' p1 [.int one.1, .int one.2] := e.sqT hsq1
        have hsq2 : SqT K H' p2 [.int r.1, .int r.2] := e.sqT hsq2
        have hgq : SqT K H' g [.int goal.1, .int goal.2] := e.sqT hg
        walk_at "go"
        refine nT_intro fun t2 H5 nt2 e5 ht2 => ?_
        have ht2 : H5 t2 = some (.tup (prV (prodR one r))) := ht2
        have ht3 : SqT K H5 t2 [.int (prodR one r).1, .int (prodR one r).2] := .of ht2
        walk_at "go"
        have hd5 := e5 _ _ hd
        refine ite2 (fun c => ?_) (fun c => ?_)
        · have c : lessR (prodR one r) goal = false := by
            unfold lessR
            exact decide_eq_false (by have := of_decide_eq_true c; omega)
          walk_at "go"
          have hlt : ks.length ≤ 500000 := dict_len hn (fun x hx => ?_) hlen
          · refine ⟨d, _, rfl, DPut.t (k := kR (prodR one r)) hd5 ht2 (by rw [List.length_map, sizeLine_eq]; omega), ?_⟩
            rw [putR]
            refine ⟨addR ks (prodR one r), _, _, rfl, Ex.mut (e.trans e5) nd0, upd_same, addR_nodup hn, fun x => ?_⟩
            rw [addR_mem, hk x, List.take_add_one, hr2]
            exact made_step c
          · rcases (hk x).mp hx with h | ⟨r', h1, h2, h3⟩
            · exact madeR_take h
            · exact madeR_mem.mpr ⟨one, List.mem_of_getElem? hone, r', List.mem_of_mem_take h1, h2, h3⟩
        · have c : lessR (prodR one r) goal = true := by
            unfold lessR
            exact decide_eq_true (by have := not_dec c; omega)
          refine ⟨ks, _, _, rfl, e.trans e5, hd5, hn, fun x => ?_⟩
          rw [hk x, List.take_add_one, hr2]
          exact made_skip c
      · rintro σ H' ⟨ks, y5, y6, rfl, e, hd, hn, hk⟩
        rw [List.length_map, Paired.length hps, List.take_length] at hk
        refine ⟨ks, _, _, _, rfl, e, hd, hn, fun x => ?_⟩
        rw [hk x, madeR_mem, madeR_mem, List.take_add_one, hone]
        constructor
        · rintro (⟨o, h1, h2⟩ | h)
          · exact ⟨o, List.mem_append_left _ h1, h2⟩
          · exact ⟨one, List.mem_append_right _ (List.mem_singleton.mpr rfl), h⟩
        · rintro ⟨o, h1, h2⟩
          rcases List.mem_append.mp h1 with h1 | h1
          · exact .inl ⟨o, h1, h2⟩
          · have h1 : o = one := by simpa using h1
            rw [h1] at h2
            exact .inr h2
    · rintro σ H' ⟨ks, y4, y5, y6, rfl, e, hd, hn, hk⟩
      rw [List.length_map, Paired.length hqs, List.take_length] at hk
      walk_at "go"
      refine ⟨by have := dict_len hn (fun x hx => (hk x).mp hx) hlen; omega, fun p H2 as np e2 hp hpa => ?_⟩
      have hsame : sortR ks = levelR st level goal := ascR_uniq (sortR_asc _) (sortR_asc _) fun x => by
        rw [sortR_mem]
        exact (hk x).trans sortR_mem.symm
      rw [hsame] at hpa
      exact q _ _ as (e.back np) (e.trans e2) hp hpa


/-! ### papers -/
theorem stockB_of {st : List (Int × Int)} (h : stockB st = true) : StockOk st := by
  unfold stockB at h
  simp only [Bool.and_eq_true, decide_eq_true_eq] at h
  exact ⟨h.1.1, h.1.2, fun r hr => ratioB_ok.mp (List.all_eq_true.mp h.2 r hr)⟩
theorem wishB_of {wish : Int × Int} : wishB wish = true ↔ GoalOk wish := by
  unfold wishB
  simp only [Bool.and_eq_true, decide_eq_true_eq]
  constructor
  · rintro ⟨⟨h1, h2⟩, h3, h4⟩
    exact ⟨h3, h4, h2⟩
  · rintro ⟨h1, h2, h3⟩
    exact ⟨⟨by omega, h3⟩, h1, h2⟩
theorem StockOk.good {st : List (Int × Int)} (h : StockOk st) : ∀ r ∈ st, GoodR r := h.all
theorem goal_of {wish : Int × Int} (h : GoalOk wish) : GoalOk (red wish.1 wish.2) ∧ gcdZ wish.1 wish.2 ≤ 5000 ∧ 0 < gcdZ wish.1 wish.2 := by
  have h1 := h.lo
  have h2 := h.le
  have h3 := h.hi
  obtain ⟨g, hg, e1, e2⟩ := red_parts (x := wish.1) (y := wish.2) (by omega)
  have hd := gcdR_dvd wish.1 wish.2
  have hp := gcdR_pos (x := wish.1) (y := wish.2) (by omega)
  have hle := Int.le_of_dvd (by omega) hd.1
  generalize red wish.1 wish.2 = r at *
  refine ⟨⟨?_, ?_, ?_⟩, by omega, hp⟩
  · rcases Int.lt_or_le 0 r.1 with z | z
    · omega
    · have : g * r.1 ≤ g * 0 := Int.mul_le_mul_of_nonneg_left z (by omega)
      omega
  · rw [e1, e2] at h2
    exact Int.le_of_mul_le_mul_left h2 hg
  · have h4 : 0 ≤ r.2 := by
      rcases Int.lt_or_le r.2 0 with z | z
      · have : g * r.2 ≤ g * 0 := Int.mul_le_mul_of_nonneg_left (by omega) (by omega)
        omega
      · exact z
    have : 1 * r.2 ≤ g * r.2 := Int.mul_le_mul_of_nonneg_right (by omega) h4
    omega
theorem level_mul {st : List (Int × Int)} (S : StockOk st) {goal : Int × Int} (G : GoalOk goal) (k : Nat) : ∀ x ∈ levelN st goal k, ∀ r ∈ st, MulOk x r := fun x hx r hr => by
  obtain ⟨h1, h2, h3, h4⟩ := levelN_good S.good G hx
  obtain ⟨r1, r2, r3⟩ := S.good r hr
  obtain ⟨g1, g2⟩ := h4 r ⟨r1, r2, r3⟩
  have : (12 : Int) ^ 12 < 18446744073709551616 := by decide
  exact ⟨⟨by omega, by omega⟩, ⟨by omega, by omega⟩, by omega, by omega, g2, by omega⟩
def lvD (l : List (Int × Int)) : PyData := .list (l.map pairD)
def ppD (ps : List (List (Int × Int))) : PyData := .list (ps.map lvD)
theorem lv_inv {H : Hp} {v : V} {l : List (Int × Int)} (h : Dp K H v (lvD l)) : ∃ a xs, v = .ref a ∧ SqL K H a xs ∧ DpAll K H xs (l.map pairD) := by
  unfold lvD at h
  cases h with
  | lst h a => exact ⟨_, _, rfl, h, a⟩
theorem pp_inv {H : Hp} {v : V} {ps : List (List (Int × Int))} (h : Dp K H v (ppD ps)) : ∃ a xs, v = .ref a ∧ SqL K H a xs ∧ DpAll K H xs (ps.map lvD) := by
  unfold ppD at h
  cases h with
  | lst h a => exact ⟨_, _, rfl, h, a⟩
theorem sc_shows : FnScope ["stock", "wish", "many", "paper", "goal", "level", "told"] ["stock", "wish", "many", "paper"] (defScope s_shows) := ⟨rfl, rfl, rfl, by decide +kernel, rfl, by decide +kernel, by decide +kernel⟩
def spShows (K : PySem.W.Frag) (C : Addr) : Sp := fun vs H Q E => ∃ (v : V) (st : List (Int × Int)) (wa : Addr) (wish : Int × Int) (many : Int) (y : V), vs = [v, .ref wa, .int many, y] ∧ StkAt K H v st ∧ st.length ≤ 1000 ∧ SqT K H wa (prV wish) ∧
  (stockB st = true → wishB wish = true → ∃ (papers : List (List (Int × Int))), Dp K H y (ppD papers) ∧ papers.length ≤ 100000 ∧
    ∀ H', Ex H H' → Q (.bl (decide ((papers.length : Int) = many) && paperB st (red wish.1 wish.2) papers [(1, 1)])) H') ∧
  ((stockB st && wishB wish) = false → ∀ H', Ex H H' → E (.ref C) none H')
theorem ok_shows {f C : Addr} {fd : FuncData} (F : Fun K "shows" "shows" s_shows f fd) (B : Blt mg) (c_need_stock : Dn P w K mg base 3 "need_stock" (spNeedStock K C)) (c_need_wish : Dn P w K mg base 2 "need_wish" (spNeedWish K C))
    (c_reduced : Dn P w K mg base 2 "reduced" spReduced) (c_level_behind : Dn P w K mg base 4 "level_behind" (spLevel K)) : FnOk P w K mg base (L2.CX P w) 5 f fd ["stock", "wish", "many", "paper"] (spShows K C) := by
  have nd := sc_shows.nd
  refine F.okX sc_shows (fun vs H Q E h => ?_) (fun cdv A outer s H vs Q E hr h => ?_)
  · obtain ⟨_, _, _, _, _, _, rfl, _⟩ := h
    rfl
  · obtain ⟨v, st, wa, wish, many, y, rfl, hst, z1, hw, q1, q2⟩ := h
    refine ⟨_, 
    (pss_cons (ps_expr (pe_d c_need_stock hr (by decide) (passes_call (takes_of rfl rfl rfl rfl) fun _ _ _ _ h => h) (by rfl) (pa_cons (pv 0) pa_nil)))
    (pss_cons (ps_expr (pe_d c_need_wish hr (by decide) (passes_call (takes_of rfl rfl rfl rfl) fun _ _ _ _ h => h) (by rfl) (pa_cons (pv 1) pa_nil)))
    (pss_cons (ps_set (i := 4) nd rfl (Or.inl rfl) (pe_d c_reduced hr (by decide) (passes_call (takes_of rfl rfl rfl rfl) fun _ _ _ _ h => h) (by rfl) (pa_cons (pe_ix (ixt (K := K) rfl) (pv 1) pe_int (fun _ _ => rfl)) (pa_cons (pe_ix (ixt (K := K) rfl) (pv 1) pe_int (fun _ _ => rfl)) pa_nil))))
    (pss_cons (ps_if (pt_cmpR op_ne (pe_callB (lenK (K := K) rfl) (by rfl) B.len PySem.boot_len (pa_cons (pv 3) pa_nil)) (pv 2) (nomark _)) (pss_one (ps_ret pe_bl)) pss_nil)
    (pss_cons (ps_set (i := 5) nd rfl (Or.inl rfl) (pe_lstN (pa_cons (pe_tupN (pa_cons pe_int (pa_cons pe_int pa_nil))) pa_nil)))
    (pss_cons (ps_for (passes_of rfl) rfl (pi_list (pv 3)) (pg_name (i := 6) nd rfl (Or.inl rfl)) (pss_cons (ps_if (PW.pt (pw_or (pt_cmpR (neD (K := K) rfl hr.units) (pe_callTy (listK (K := K) rfl) (by rfl) B.list bt_list (pa_cons (pv 6) pa_nil)) (pv 5) (nomark _)) (pw_or1 (pt_cmpR (inDK (K := K) rfl (room65 hr)) (pv 4) (pv 5) (by rfl))))) (pss_one (ps_ret pe_bl)) pss_nil)
    (pss_one (ps_set (i := 5) nd rfl (Or.inl rfl) (pe_d c_level_behind hr (by decide) (passes_call (takes_of rfl rfl rfl rfl) fun _ _ _ _ h => h) (by rfl) (pa_cons (pv 0) (pa_cons (pv 5) (pa_cons (pv 4) pa_nil))))))))
    (pss_one (ps_ret pe_bl)))))))), ?_⟩
    try dsimp only [cxOf, Cx.nox, Cx.wish]
    walk_at "norm"
    walk_at "go"
    refine ⟨fun k1 H1 e1 => ?_, fun k1 H1 e1 => q2 (by rw [k1]; rfl) _ e1⟩
    walk_at "go"
    refine ⟨fun k2 H2 e2 => ?_, fun k2 H2 e2 => q2 (by rw [k1, k2]; rfl) _ (e1.trans e2)⟩
    obtain ⟨papers, hp, z2, q⟩ := q1 k1 k2
    have S := stockB_of k1
    have G0 := wishB_of.mp k2
    obtain ⟨G, gg1, gg2⟩ := goal_of G0
    have g1 := G0.lo
    have g2 := G0.le
    have g3 := G0.hi
    have hw2 : SqT K H2 wa [.int wish.1, .int wish.2] := (e1.trans e2).sqT hw
    walk_at "go"
    refine nT_intro fun gp H3 ng e3 hgp => ?_
    have hgp : H3 gp = some (.tup (prV (red wish.1 wish.2))) := hgp
    generalize red wish.1 wish.2 = goal at *
    obtain ⟨pp, xs, rfl, hsp, hda⟩ := pp_inv hp
    have hlen : xs.length = papers.length := by rw [dpAll_len hda, List.length_map]
    have e03 : Ex H H3 := e1.trans (e2.trans e3)
    have hsp3 := e03.sqL hsp
    walk_at "go"
    rw [hlen]
    refine ite2 (fun c => ?_) (fun c => ?_)
    · have c : (papers.length : Int) ≠ many := fun z => by rw [z] at c; simp at c
      rw [decide_eq_false c, Bool.false_and] at q
      walk_at "go"
      exact q _ e03
    · have c : (papers.length : Int) = many := by simpa using c
      rw [decide_eq_true c, Bool.true_and] at q
      walk_at "go"
      refine nT_intro fun t1 H4 n4 e4 ht1 => ?_
      walk_at "go"
      refine nL_intro fun l0 H5 n5 e5 hl0 => ?_
      obtain ⟨sa, rfl, hprs⟩ := hst.prs
      have e35 : Ex H3 H5 := e4.trans e5
      have hsp5 := e35.sqL hsp3
      have z3 := S.hi
      walk_at "go"
      refine for_list (K := K) (a := pp) (xs := xs) (fun i σ H' => ∃ (la : Addr) (as : List Addr) (y6 : Option V), σ = [some (.ref sa), some (.ref wa), some (.int many), some (.ref pp), some (.ref gp), some (.ref la), y6] ∧ Ex H3 H' ∧
          H' la = some (.lst (as.map V.ref)) ∧ PairsAt H' as (levelN st goal i) ∧ paperB st goal papers [(1, 1)] = paperB st goal (papers.drop i) (levelN st goal i))
        ⟨l0, [t1], _, rfl, e35, hl0, .cons (e5 _ _ ht1) .nil, rfl⟩ (fun i σ H' _ ⟨_, _, _, _, e, _⟩ => e.sqL hsp3) ?_ ?_
      · rintro i x σ H' hi ⟨la, as, y6, rfl, e, hla, hpa, hpb⟩
        have hil : i < papers.length := by
          have := (List.getElem?_eq_some_iff.mp hi).1
          omega
        obtain ⟨x', d, hx', hd', hdp⟩ := dpAll_at hda i (by rw [List.length_map]; exact hil)
        rw [hi] at hx'
        cases hx'
        rw [List.getElem?_map, List.getElem?_eq_getElem hil] at hd'
        cases hd'
        have hdrop : papers.drop i = papers[i] :: papers.drop (i + 1) := List.drop_eq_getElem_cons hil
        rw [hdrop] at hpb
        generalize papers[i] = told at hdp hpb
        have e0 : Ex H H' := e03.trans e
        obtain ⟨ta, ts, rfl, hts, hta⟩ := lv_inv (e0.dp hdp)
        have G1 := G.lo
        have G2 := G.le
        have G3 := G.hi
        walk_at "go"
        refine nL_intro fun c1 H6 n6 e6 hc1 => ?_
        have dA : Dp K H6 (.ref c1) (.list (told.map pairD)) := .lst (.of hc1) (e6.dpAll hta)
        have lv6 : PrsL K H6 la (levelN st goal i) := .of (e6 _ _ hla) (hpa.ext e6)
        walk_at "go"
        refine ⟨_, _, dA, lv6.dp, pairs_shaped _, pairs_shaped _, ?_⟩
        rw [pairsD_eqv]
        refine ⟨_, rfl, ?_⟩
        refine ite2 (fun c2 => ?_) (fun c2 => ?_)
        · have c2 : told ≠ levelN st goal i := of_bnot c2
          have hf : paperB st goal (told :: papers.drop (i + 1)) (levelN st goal i) = false := by
            show (decide _ && _ && _) = false
            rw [decide_eq_false c2, Bool.false_and, Bool.false_and]
          rw [hpb, hf] at q
          walk_at "go"
          exact q _ (e0.trans e6)
        · have c2 : told = levelN st goal i := not_bnot c2
          have dG : Dp K H6 (.ref gp) (pairD goal) := pair_dp (.of (e6 _ _ (e _ _ hgp)))
          walk_at "go"
          refine ⟨_, _, dG, lv6.dp, pairD_shaped _, pairs_shaped _, ?_⟩
          rw [pairD_any]
          refine ⟨_, rfl, ?_⟩
          refine ite2 (fun c3 => ?_) (fun c3 => ?_)
          · have hf : paperB st goal (told :: papers.drop (i + 1)) (levelN st goal i) = false := by
              show (decide _ && !decide _ && _) = false
              rw [c3, Bool.not_true, Bool.and_false, Bool.false_and]
            rw [hpb, hf] at q
            walk_at "go"
            exact q _ (e0.trans e6)
          · have ht : paperB st goal (told :: papers.drop (i + 1)) (levelN st goal i) = paperB st goal (papers.drop (i + 1)) (levelN st goal (i + 1)) := by
              show (decide _ && !decide _ && _) = _
              rw [decide_eq_true c2, Bool.eq_false_iff.mpr c3]
              rfl
            rw [ht] at hpb
            have hm := level_many S.good G S.lo S.hi i
            have hm1 := level_many S.good G S.lo S.hi (i + 1)
            walk_at "go"
            refine ⟨sa, la, gp, st, levelN st goal i, goal, rfl, hprs.ext (e0.trans e6), lv6, .of (e6 _ _ (e _ _ hgp)), by omega, by omega, level_mul S G i, by omega, by omega, Nat.le_trans hm1 (by decide), ?_⟩
            refine nP_intro fun l2 H7 as2 n7 e7 hl2 hp2 => ?_
            exact ⟨l2, as2, _, rfl, e.trans (e6.trans e7), hl2, hp2, hpb⟩
      · rintro σ H' ⟨la, as, y6, rfl, e, hla, hpa, hpb⟩
        rw [hlen, List.drop_length] at hpb
        rw [hpb] at q
        walk_at "go"
        exact q _ (e03.trans e)


/-! ### the law's wishes and levels -/
/-- a statement, cut from what follows it -/
theorem seq_cutQ {t r : TS} {D : L2.Ends} {σ : L2.St} {H : Hp} (p : L2.St → Hp → Prop) (h1 : ∀ N : L2.St → Hp → Prop, (∀ σ' H', p σ' H' → N σ' H') → t { D with nx := N } σ H) (h2 : ∀ σ' H', p σ' H' → r D σ' H') : tSeq t r D σ H := h1 _ h2
theorem sc__law_wish : FnScope ["_law_h", "_law_stock_here", "_law_top", "_law_bottom", "_law_k", "_law_ratio", "_law_times"] ["_law_h", "_law_stock_here"] (defScope s__law_wish) := ⟨rfl, rfl, rfl, by decide +kernel, rfl, by decide +kernel, by decide +kernel⟩
def spWish (K : PySem.W.Frag) : Sp := fun vs H Q _ => ∃ (h : Addr) (v : V) (st : List (Int × Int)), vs = [.ref h, v] ∧ Rng H h ∧ StkAt K H v st ∧ StockOk st ∧ ∀ p H' wish, Ex H H' → GoalOk wish → H' p = some (.tup (prV wish)) → Q (.ref p) H'
theorem ok__law_wish {f : Addr} {fd : FuncData} (F : Fun K "_law_wish" "_law_wish" s__law_wish f fd) (B : Blt mg) (c__law_next : Dn P w K mg base 1 "_law_next" spNext) (c__law_common : Dn P w K mg base 1 "_law_common" spDivisor)
    (c__law_reduced : Dn P w K mg base 2 "_law_reduced" spReduced) : FnOk P w K mg base CX0 3 f fd ["_law_h", "_law_stock_here"] (spWish K) := by
  have nd := sc__law_wish.nd
  refine F.ok sc__law_wish (fun vs H Q E h => ?_) (fun cdv A outer s H vs Q E hr h => ?_)
  · obtain ⟨_, _, _, rfl, _⟩ := h
    rfl
  · obtain ⟨h, v, st, rfl, hR, hst, S, q⟩ := h
    obtain ⟨sa, rfl, ps, hs, hps⟩ := hst.prs
    have z1 := S.lo
    have z2 := S.hi
    have hpl := Paired.length hps
    refine ⟨_, 
    (pss_cons (ps_asg (pe_tupN (pa_cons pe_int (pa_cons pe_int pa_nil))) (pg_tup rfl (pgs_cons (pg_name (i := 2) nd rfl (Or.inl rfl)) (pgs_cons (pg_name (i := 3) nd rfl (Or.inl rfl)) pgs_nil))))
    (pss_cons (ps_for PassesOwn.never rfl (pi_range1 (by rfl) B.range (pa_cons (pe_d c__law_next hr (by decide) passL (by rfl) (pa_cons (pv 0) (pa_cons (pe_ix (ixl (K := K) rfl) (pe_lstN (pa_cons pe_int (pa_cons pe_int pa_nil))) (pe_d c__law_next hr (by decide) passL (by rfl) (pa_cons (pv 0) (pa_cons pe_int pa_nil))) (fun _ _ => rfl)) pa_nil))) pa_nil)) (pg_name (i := 4) nd rfl (Or.inl rfl)) (pss_cons (ps_set (i := 5) nd rfl (Or.inl rfl) (pe_ix (ixl (K := K) rfl) (pv 1) (pe_d c__law_next hr (by decide) passL (by rfl) (pa_cons (pv 0) (pa_cons (pe_callB (lenK (K := K) rfl) (by rfl) B.len PySem.boot_len (pa_cons (pv 1) pa_nil)) pa_nil))) (fun _ _ => rfl)))
    (pss_one (ps_if (pt_cmpR op_le (pe_op op_fdiv (pe_op op_mul (pv 3) (pe_ix (ixt (K := K) rfl) (pv 5) pe_int (fun _ _ => rfl))) (pe_d c__law_common hr (by decide) passL (by rfl) (pa_cons (pe_op op_mul (pv 2) (pe_ix (ixt (K := K) rfl) (pv 5) pe_int (fun _ _ => rfl))) (pa_cons (pe_op op_mul (pv 3) (pe_ix (ixt (K := K) rfl) (pv 5) pe_int (fun _ _ => rfl))) pa_nil)))) pe_int (nomark _)) (pss_one (ps_asg (pe_d c__law_reduced hr (by decide) passL (by rfl) (pa_cons (pe_op op_mul (pv 2) (pe_ix (ixt (K := K) rfl) (pv 5) pe_int (fun _ _ => rfl))) (pa_cons (pe_op op_mul (pv 3) (pe_ix (ixt (K := K) rfl) (pv 5) pe_int (fun _ _ => rfl))) pa_nil))) (pg_tup rfl (pgs_cons (pg_name (i := 2) nd rfl (Or.inl rfl)) (pgs_cons (pg_name (i := 3) nd rfl (Or.inl rfl)) pgs_nil))))) pss_nil))))
    (pss_cons (ps_set (i := 6) nd rfl (Or.inl rfl) (pe_op op_add pe_int (pe_op op_mul (pe_d c__law_next hr (by decide) passL (by rfl) (pa_cons (pv 0) (pa_cons pe_int pa_nil))) (pe_d c__law_next hr (by decide) passL (by rfl) (pa_cons (pv 0) (pa_cons pe_int pa_nil))))))
    (pss_cons (ps_if (pt_cmpR op_le (pe_op op_mul (pv 3) (pv 6)) pe_int (nomark _)) (pss_one (ps_par (i := 2) (j := 3) rfl nd rfl rfl (by decide) rfl rfl (pa_cons (pe_op op_mul (pv 2) (pv 6)) (pa_cons (pe_op op_mul (pv 3) (pv 6)) pa_nil)) (by rfl))) pss_nil)
    (pss_cons (ps_if (pt_cmpR op_gt (pe_d c__law_next hr (by decide) passL (by rfl) (pa_cons (pv 0) (pa_cons pe_int pa_nil))) pe_int (nomark _)) (pss_one (ps_ret (pe_tupN (pa_cons (pv 2) (pa_cons (pv 3) pa_nil))))) pss_nil)
    (pss_cons (ps_set (i := 3) nd rfl (Or.inl rfl) (pe_op op_add pe_int (pe_d c__law_next hr (by decide) passL (by rfl) (pa_cons (pv 0) (pa_cons (pe_ix (ixl (K := K) rfl) (pe_lstN (pa_cons pe_int (pa_cons pe_int pa_nil))) (pe_d c__law_next hr (by decide) passL (by rfl) (pa_cons (pv 0) (pa_cons pe_int pa_nil))) (fun _ _ => rfl)) pa_nil)))))
    (pss_one (ps_ret (pe_tupN (pa_cons (pe_op op_add pe_int (pe_d c__law_next hr (by decide) passL (by rfl) (pa_cons (pv 0) (pa_cons (pv 3) pa_nil)))) (pa_cons (pv 3) pa_nil))))))))))), ?_⟩
    try dsimp only [cxOf, Cx.nox, Cx.wish]
    walk_at "norm"
    walk_at "go"
    refine nT_intro fun t0 H1 n1 e1 ht0 => ?_
    walk_at "go"
    refine nL_intro fun p1 H2 n2 e2 hp1 => ?_
    walk_at "go"
    walk_at "dr"
    intro r1 H3 a1 b1 e3
    walk_at "go"
    refine ⟨p1, _, r1, _, rfl, rfl, .of (e3 _ _ hp1), at_two a1 b1, ?_⟩
    walk_at "go"
    refine ⟨by walk_at "seq", by split <;> omega, by split <;> omega, fun r2 H4 a2 b2 e4 => ?_⟩
    have b2 : r2 < 13 := Int.lt_of_lt_of_le b2 (by split <;> omega)
    have e04 : Ex H H4 := by walk_at "ex"
    walk_at "go"
    refine for_range (fun i σ H' => ∃ (top bot : Int) (y4 y5 y6 : Option V), σ = [some (.ref h), some (.ref sa), some (.int top), some (.int bot), y4, y5, y6] ∧ Ex H H' ∧ 1 ≤ top ∧ top ≤ bot ∧ bot ≤ 5000) ⟨1, 1, _, _, _, rfl, e04, by decide, by decide, by decide⟩ ?_ ?_
    · rintro i σ H5 hi ⟨top, bot, y4, y5, y6, rfl, e5, w1, w2, w3⟩
      have hs5 := e5.sqL hs
      walk_at "go"
      rw [List.length_map, hpl]
      refine ⟨by walk_at "seq", by omega, by omega, fun r3 H6 a3 b3 (e6 : Ex H5 H6) => ?_⟩
      obtain ⟨n3, rfl⟩ := Int.eq_ofNat_of_zero_le a3
      have hn3 : n3 < st.length := by omega
      have hp3 : ps[n3]? = some (ps[n3]'(by omega)) := List.getElem?_eq_getElem (by omega)
      obtain ⟨r, hr3, hsq⟩ := paired_at hps hp3
      obtain ⟨g1, g2, g3⟩ := S.good r (List.mem_of_getElem? hr3)
      generalize ps[n3]'(by omega) = pr at hp3 hsq
      have hat : atI (ps.map V.ref) ((n3 : Nat) : Int) = some (.ref pr) := atI_nat (by rw [List.getElem?_map, hp3]; rfl)
      refine ⟨sa, _, _, _, rfl, rfl, e6.sqL hs5, hat, ?_⟩
      have hsq6 : SqT K H6 pr [.int r.1, .int r.2] := (e5.trans e6).sqT hsq
      have m1 : 0 < top * r.1 := Int.mul_pos (by omega) (by omega)
      have m2 : 0 < bot * r.2 := Int.mul_pos (by omega) (by omega)
      have m3 : top * r.1 ≤ 5000 * 12 := Int.mul_le_mul (by omega) (by omega) (by omega) (by omega)
      have gp := gcdR_pos (x := top * r.1) (y := bot * r.2) m1
      have gd := gcdR_dvd (top * r.1) (bot * r.2)
      have gl := Int.le_of_dvd m1 gd.1
      walk_at "go"
      refine ite2 (fun c => ?_) (fun c => ?_)
      · have c := of_decide_eq_true c
        walk_at "go"
        refine nT_intro fun t2 H7 n7 e7 ht2 => ?_
        walk_at "go"
        have k1 : 1 ≤ top * r.1 / gcdZ (top * r.1) (bot * r.2) := Int.le_ediv_of_mul_le gp (by omega)
        have k2 : top * r.1 ≤ bot * r.2 := Int.mul_le_mul w2 (by omega) (by omega) (by omega)
        exact ⟨_, _, _, _, _, rfl, e5.trans (e6.trans e7), k1, Int.ediv_le_ediv gp k2, c⟩
      · exact ⟨_, _, _, _, _, rfl, e5.trans e6, w1, w2, w3⟩
    · rintro σ H5 ⟨top, bot, y4, y5, y6, rfl, e5, w1, w2, w3⟩
      try dsimp only [tNext]
      refine seq_cutQ (fun σ' H' => ∃ (tm : Int), σ' = [some (.ref h), some (.ref sa), some (.int top), some (.int bot), y4, y5, some (.int tm)] ∧ Ex H H' ∧ 1 ≤ tm ∧ tm ≤ 4) (fun N hN => ?_) ?_
      · walk_at "go"
        walk_at "dr"
        intro r3 H6 a3 b3 e6
        walk_at "go"
        walk_at "dr"
        intro r4 H7 a4 b4 e7
        walk_at "go"
        have hx : 0 ≤ r3 * r4 ∧ r3 * r4 ≤ 3 := by
          have : r4 = 0 ∨ r4 = 1 := by omega
          rcases this with rfl | rfl <;> omega
        exact hN _ _ ⟨_, rfl, by walk_at "ex", by omega, by omega⟩
      rintro σ H6 ⟨tm, rfl, e6, x1, x2⟩
      try dsimp only [tNext]
      refine seq_cutQ (fun σ' H' => ∃ (top bot : Int), σ' = [some (.ref h), some (.ref sa), some (.int top), some (.int bot), y4, y5, some (.int tm)] ∧ Ex H H' ∧ 1 ≤ top ∧ top ≤ bot ∧ bot ≤ 5000) (fun N hN => ?_) ?_
      · walk_at "go"
        refine ite2 (fun c => ?_) (fun c => ?_)
        · have c := of_decide_eq_true c
          walk_at "go"
          have k1 : 1 * 1 ≤ top * tm := Int.mul_le_mul w1 x1 (by decide) (by omega)
          have k2 : top * tm ≤ bot * tm := Int.mul_le_mul_of_nonneg_right w2 (by omega)
          exact hN _ _ ⟨_, _, rfl, e6, by omega, k2, c⟩
        · exact hN _ _ ⟨_, _, rfl, e6, w1, w2, w3⟩
      clear w1 w2 w3
      rintro σ H6 ⟨top, bot, rfl, e6, w1, w2, w3⟩
      walk_at "go"
      walk_at "dr"
      intro r3 H7 a3 b3 e7
      walk_at "go"
      refine ite2 (fun c => ?_) (fun c => ?_)
      · walk_at "go"
        refine nT_intro fun tp H8 n8 e8 htp => ?_
        exact q tp _ (top, bot) (e6.trans (Ex.trans e7 e8)) ⟨w1, w2, w3⟩ htp
      · walk_at "go"
        refine nL_intro fun p9 H9 n9 e9 hp9 => ?_
        walk_at "go"
        walk_at "dr"
        intro r5 HA a5 b5 eA
        walk_at "go"
        refine ⟨p9, _, r5, _, rfl, rfl, .of (eA _ _ hp9), at_two a5 b5, ?_⟩
        walk_at "go"
        refine ⟨by walk_at "seq", by split <;> omega, by split <;> omega, fun r6 HB a6 b6 (eB : Ex HA HB) => ?_⟩
        have b6 : r6 < 5000 := Int.lt_of_lt_of_le b6 (by split <;> omega)
        walk_at "go"
        refine ⟨by walk_at "seq", by omega, by omega, fun r7 HC a7 b7 (eC : Ex HB HC) => ?_⟩
        walk_at "go"
        refine nT_intro fun tp HD nD eD htp => ?_
        exact q tp _ (1 + r7, 1 + r6) (by walk_at "ex") ⟨by show 1 ≤ 1 + r7; omega, by show 1 + r7 ≤ 1 + r6; omega, by show 1 + r6 ≤ 5000; omega⟩ htp
/-- a list of pairs, tracked -/
def LvAt (H : Hp) (a : Addr) (rs : List (Int × Int)) : Prop := ∃ as : List Addr, H a = some (.lst (as.map V.ref)) ∧ PairsAt H as rs
theorem LvAt.ext {H H' : Hp} {a : Addr} {rs : List (Int × Int)} (h : LvAt H a rs) (e : Ex H H') : LvAt H' a rs := let ⟨as, h1, h2⟩ := h; ⟨as, e _ _ h1, h2.ext e⟩
theorem LvAt.prs {H : Hp} {a : Addr} {rs : List (Int × Int)} (h : LvAt H a rs) : PrsL K H a rs := let ⟨as, h1, h2⟩ := h; .of h1 h2
theorem LvAt.upd {H : Hp} {a L : Addr} {rs : List (Int × Int)} {xs ys : List V} (h : LvAt H a rs) (n : a ≠ L) (hl : H L = some (.lst xs)) : LvAt (upd H L (.lst ys)) a rs := by
  obtain ⟨as, h1, h2⟩ := h
  refine ⟨as, by rw [upd_ne n]; exact h1, Paired.mapP h2 fun p r q => ?_⟩
  rw [upd_ne (fun z => by rw [z, hl] at q; cases q)]
  exact q
/-- lists of pairs, none of them the one at L -/
def LvsAt (H : Hp) (L : Addr) : List Addr → List (List (Int × Int)) → Prop := Paired fun a rs => a ≠ L ∧ LvAt H a rs
theorem LvsAt.ext {H H' : Hp} {L : Addr} {as : List Addr} {ps : List (List (Int × Int))} (h : LvsAt H L as ps) (e : Ex H H') : LvsAt H' L as ps := Paired.mapP h fun _ _ q => ⟨q.1, q.2.ext e⟩
theorem LvsAt.upd {H : Hp} {L : Addr} {as : List Addr} {ps : List (List (Int × Int))} {xs ys : List V} (h : LvsAt H L as ps) (hl : H L = some (.lst xs)) : LvsAt (upd H L (.lst ys)) L as ps := Paired.mapP h fun _ _ q => ⟨q.1, q.2.upd q.1 hl⟩
theorem LvsAt.dp {H : Hp} {L : Addr} {as : List Addr} {ps : List (List (Int × Int))} (h : LvsAt H L as ps) : DpAll K H (as.map V.ref) (ps.map lvD) := by
  induction h with
  | nil => exact .nil
  | cons q _ ih => exact .cons (PrsL.dp q.2.prs) ih
/-- the levels end there -/
structure Stops (st : List (Int × Int)) (goal : Int × Int) (k : Nat) : Prop where
  go : ∀ i, i < k → goal ∉ levelN st goal i ∧ levelN st goal i ≠ []
  at_ : goal ∈ levelN st goal k ∨ levelN st goal k = []
theorem Stops.le {st : List (Int × Int)} {goal : Int × Int} {k : Nat} (h : Stops st goal k) (S : StockOk st) (G : GoalOk goal) : k ≤ 13 := by
  rcases Nat.lt_or_ge 13 k with z | z
  · exact absurd (levelN_end S.good G (Nat.le_refl 13)) (h.go 13 z).2
  · exact z
theorem paperN_succ {st : List (Int × Int)} {goal : Int × Int} (k : Nat) : paperN st goal (k + 1) = paperN st goal k ++ [levelN st goal k] := by
  unfold paperN
  rw [List.range_succ, List.map_append]
  rfl
theorem sc__law_levels : FnScope ["_law_stock_here", "_law_goal", "_law_found"] ["_law_stock_here", "_law_goal"] (defScope s__law_levels) := ⟨rfl, rfl, rfl, by decide +kernel, rfl, by decide +kernel, by decide +kernel⟩
def spLevels (K : PySem.W.Frag) : Sp := fun vs H Q _ => ∃ (v : V) (st : List (Int × Int)) (ga : Addr) (goal : Int × Int), vs = [v, .ref ga] ∧ StkAt K H v st ∧ StockOk st ∧ SqT K H ga (prV goal) ∧ GoalOk goal ∧
  ∀ p H' k, Ex H H' → Stops st goal k → Dp K H' p (ppD (paperN st goal (k + 1))) → Q p H'
theorem ok__law_levels {f : Addr} {fd : FuncData} (F : Fun K "_law_levels" "_law_levels" s__law_levels f fd) (B : Blt mg) (c__law_level : Dn P w K mg base 3 "_law_level" (spLevel K)) : FnOk P w K mg base CX0 4 f fd ["_law_stock_here", "_law_goal"] (spLevels K) := by
  have nd := sc__law_levels.nd
  refine F.ok sc__law_levels (fun vs H Q E h => ?_) (fun cdv A outer s H vs Q E hr h => ?_)
  · obtain ⟨_, _, _, _, rfl, _⟩ := h
    rfl
  · obtain ⟨v, st, ga, goal, rfl, hst, S, hg, G, q⟩ := h
    obtain ⟨sa, rfl, hprs⟩ := hst.prs
    have z1 := S.lo
    have z2 := S.hi
    have G1 := G.lo
    have G2 := G.le
    have G3 := G.hi
    refine ⟨_, 
    (pss_cons (ps_set (i := 2) nd rfl (Or.inl rfl) (pe_lstN (pa_cons (pe_lstN (pa_cons (pe_tupN (pa_cons pe_int (pa_cons pe_int pa_nil))) pa_nil)) pa_nil)))
    (pss_cons (ps_while PassesOwn.never (PW.pt (pw_and (pt_cmpR (niDK (K := K) rfl (room65 hr)) (pv 1) (pe_ix (ixl (K := K) rfl) (pv 2) (pe_un un_neg pe_int) (fun _ _ => rfl)) (by rfl)) (pw_and1 (pt_cmp (neNilD (K := K) rfl hr.units (pe_ix (ixl (K := K) rfl) (pv 2) (pe_un un_neg pe_int) (fun _ _ => rfl))))))) (pss_one (ps_expr (pe_bm PySem.F.plainAttrs_list PySem.F.slot_list_append PySem.F.type_list_append mt_append (pv 2) (pa_cons (pe_d c__law_level hr (by decide) passL (by rfl) (pa_cons (pv 0) (pa_cons (pe_ix (ixl (K := K) rfl) (pv 2) (pe_un un_neg pe_int) (fun _ _ => rfl)) (pa_cons (pv 1) pa_nil)))) pa_nil)))))
    (pss_one (ps_ret (pv 2))))), ?_⟩
    try dsimp only [cxOf, Cx.nox, Cx.wish]
    walk_at "norm"
    walk_at "go"
    refine nT_intro fun t0 H1 n1 e1 ht0 => ?_
    walk_at "go"
    refine nL_intro fun l0 H2 n2 e2 hl0 => ?_
    walk_at "go"
    refine nL_intro fun L H3 n3 e3 hL => ?_
    have nLH : H L = none := Ex.back (e1.trans e2) n3
    walk_at "go"
    have h0 : LvAt H3 l0 (levelN st goal 0) := ⟨[t0], e3 _ _ hl0, .cons (e3 _ _ (e2 _ _ ht0)) .nil⟩
    have ne0 : l0 ≠ L := ne_of_none hl0 n3
    refine ⟨fun m σ H' => ∃ (i : Nat) (ls : List Addr) (la : Addr), σ = [some (.ref sa), some (.ref ga), some (.ref L)] ∧ Ex H H' ∧ m = 14 - i ∧ H' L = some (.lst ((ls ++ [la]).map V.ref)) ∧ LvsAt H' L ls (paperN st goal i) ∧ la ≠ L ∧ LvAt H' la (levelN st goal i) ∧
      ∀ j, j < i → goal ∉ levelN st goal j ∧ levelN st goal j ≠ [], ⟨_, 0, [], l0, rfl, (e1.trans e2).trans e3, rfl, hL, .nil, ne0, h0, fun j hj => absurd hj (Nat.not_lt_zero _)⟩, ?_⟩
    rintro m σ H' ⟨i, ls, la, rfl, e, rfl, hL', hls, nla, hla, hgo⟩
    have hat : atI ((ls ++ [la]).map V.ref) (-1) = some (.ref la) := by rw [List.map_append]; exact atI_last _ _
    walk_at "go"
    have dG : Dp K H' (.ref ga) (pairD goal) := pair_dp (e.sqT hg)
    have hi14 : i ≤ 13 := by
      rcases Nat.lt_or_ge 13 i with z | z
      · exact absurd (levelN_end S.good G (Nat.le_refl 13)) (hgo 13 z).2
      · exact z
    refine ⟨L, _, _, _, rfl, rfl, .of hL', hat, ?_⟩
    refine ⟨_, _, dG, hla.prs.dp, pairD_shaped _, pairs_shaped _, ?_⟩
    rw [pairD_any]
    have done : ∀ H2, Ex H' H2 → (goal ∈ levelN st goal i ∨ levelN st goal i = []) → Q (.ref L) H2 := fun H2 e2 hs => by
      refine q _ _ i (e.trans e2) ⟨hgo, hs⟩ ?_
      have hL2 := e2 _ _ hL'
      refine .lst (.of hL2) ?_
      rw [paperN_succ]
      exact e2.dpAll (LvsAt.dp (hls.snoc ⟨nla, hla⟩))
    refine ⟨_, rfl, ?_⟩
    refine ite2 (fun c => ?_) (fun c => ?_)
    · have c : goal ∉ levelN st goal i := of_bnot c
      walk_at "go"
      refine ⟨L, _, _, _, rfl, rfl, .of hL', hat, ?_⟩
      refine ⟨la, _, rfl, hla.prs.dp, pairs_shaped _, nE_intro fun H4 e4 => ?_⟩
      walk_at "go"
      have hemp : (List.map pairD (levelN st goal i)).isEmpty = decide (levelN st goal i = []) := by cases levelN st goal i <;> rfl
      rw [hemp]
      refine ite2 (fun c2 => ?_) (fun c2 => ?_)
      · have c2 : levelN st goal i ≠ [] := of_bnot c2
        have hL4 := e4 _ _ hL'
        have hm := level_many S.good G S.lo S.hi i
        have hm1 := level_many S.good G S.lo S.hi (i + 1)
        have e0 : Ex H H4 := e.trans e4
        refine ⟨fun σ' H' => ∃ (ls : List Addr) (la : Addr), σ' = [some (.ref sa), some (.ref ga), some (.ref L)] ∧ Ex H H' ∧ H' L = some (.lst ((ls ++ [la]).map V.ref)) ∧ LvsAt H' L ls (paperN st goal (i + 1)) ∧ la ≠ L ∧ LvAt H' la (levelN st goal (i + 1)), ?_, ?_⟩
        · rintro σ' H' ⟨ls, la, rfl, e, h1, h2, h3, h4⟩
          refine ⟨14 - (i + 1), by omega, i + 1, ls, la, rfl, e, rfl, h1, h2, h3, h4, fun j hj => ?_⟩
          rcases Nat.lt_or_ge j i with z | z
          · exact hgo j z
          · rw [show j = i by omega]
            exact ⟨c, c2⟩
        · walk_at "go"
          refine ⟨.inl ⟨rfl, _, .of hL4⟩, ?_⟩
          walk_at "go"
          refine ⟨L, _, _, _, rfl, rfl, .of hL4, hat, ?_⟩
          walk_at "go"
          refine ⟨sa, la, ga, st, levelN st goal i, goal, rfl, hprs.ext e0, (hla.ext e4).prs, e0.sqT hg, by omega, by omega, level_mul S G i, by omega, by omega, Nat.le_trans hm1 (by decide), ?_⟩
          refine nP_intro fun l2 H5 as2 n5 e5 hl2 hp2 => ?_
          have hL5 := e5 _ _ hL4
          have ne2 : l2 ≠ L := (ne_of_none hL4 n5).symm
          have hls5 : LvsAt H5 L (ls ++ [la]) (paperN st goal (i + 1)) := by
            rw [paperN_succ]
            exact LvsAt.ext (hls.snoc ⟨nla, hla⟩) (e4.trans e5)
          have hv : LvAt H5 l2 (levelN st goal (i + 1)) := ⟨as2, hl2, hp2⟩
          walk_at "go"
          refine ⟨L, _, _, rfl, rfl, hL5, ?_, ?_⟩
          · have := Paired.length hls5
            rw [List.length_map, this]
            unfold paperN
            rw [List.length_map, List.length_range, sizeLine_eq]
            omega
          · refine ⟨ls ++ [la], l2, rfl, Ex.mut (e0.trans e5) nLH, ?_, hls5.upd hL5, ne2, hv.upd ne2 hL5⟩
            rw [upd_same, List.map_append (l₁ := ls ++ [la])]
            rfl
      · have c2 : levelN st goal i = [] := not_bnot c2
        walk_at "go"
        exact done _ e4 (.inr c2)
    · have c : goal ∈ levelN st goal i := not_bnot c
      walk_at "go"
      exact done _ (Ex.refl _) (.inl c)


/-! ### the first numbers, the fewest -/
theorem prD_eqv (x y : Int × Int) : PyData.eqv (pairD x) (pairD y) = decide (x = y) := pairD_eqv x y
theorem firstN_len {st : List (Int × Int)} {goal : Int × Int} : ∀ (m b : Nat) (a : Int × Int) (ns : List Nat), firstN st goal m b a = some ns → ns.length = m
  | 0, b, a, ns, h => by
    unfold firstN at h
    by_cases c : a = goal
    · rw [if_pos c] at h
      cases h
      rfl
    · rw [if_neg c] at h
      cases h
  | m + 1, b, a, ns, h => by
    unfold firstN at h
    obtain ⟨n, _, hn⟩ := List.exists_of_findSome?_eq_some h
    by_cases c : lessR (prodR a (rAt st n)) goal = true
    · rw [if_pos c] at hn
      cases hn
    · rw [if_neg c] at hn
      obtain ⟨r, hr, rfl⟩ := Option.map_eq_some_iff.mp hn
      rw [List.length_cons, firstN_len m n _ r hr]
theorem val_nil {st : List (Int × Int)} : valR st [] = (1, 1) := by
  show red 1 1 = _
  rfl
theorem sc_first_numbers : FnScope ["stock", "goal", "many", "begin", "ahead", "number", "more", "rest"] ["stock", "goal", "many", "begin", "ahead"] (defScope s_first_numbers) := ⟨rfl, rfl, rfl, by decide +kernel, rfl, by decide +kernel, by decide +kernel⟩
def optL (K : PySem.W.Frag) (H H' : Hp) (o : Option (List Nat)) (v : V) : Prop := match o with
  | none => v = .non
  | some ns => ∃ p, v = .ref p ∧ H p = none ∧ H' p = some (.lst (ns.map fun (n : Nat) => V.int (n : Int)))
/-- the first so many numbers, of at most n levels -/
def spFirst (K : PySem.W.Frag) (n : Nat) : Sp := fun vs H Q _ => ∃ (a g c : Addr) (st : List (Int × Int)) (goal : Int × Int) (many begin : Nat) (pre : List Nat), vs = [.ref a, .ref g, .int (many : Int), .int (begin : Int), .ref c] ∧ PrsL K H a st ∧ StockOk st ∧ SqT K H g (prV goal) ∧ GoalOk goal ∧
  SqT K H c (prV (valR st pre)) ∧ geV st goal pre ∧ begin ≤ st.length ∧ many < n ∧ many ≤ 1000 ∧ ∀ v H', Ex H H' → optL K H H' (firstN st goal many begin (valR st pre)) v → Q v H'
theorem val_mul {st : List (Int × Int)} (S : StockOk st) {goal : Int × Int} (G : GoalOk goal) {pre : List Nat} (h : geV st goal pre) {r : Int × Int} (hr : r ∈ st) : MulOk (valR st pre) r := by
  obtain ⟨p1, p2, p3⟩ := val_pos S.good pre
  have hl := ge_len S.good G h
  obtain ⟨g1, g2⟩ := prod_gcd S.good pre (S.good r hr)
  obtain ⟨r1, r2, r3⟩ := S.good r hr
  have h12 : (12 : Int) ^ pre.length ≤ 12 ^ 12 := by
    have := Nat.pow_le_pow_right (show 0 < 12 by decide) hl
    exact_mod_cast this
  have : (12 : Int) ^ 12 < 18446744073709551616 := by decide
  exact ⟨⟨by omega, by omega⟩, ⟨by omega, by omega⟩, by omega, by omega, g2, by omega⟩
theorem step_first {f : Addr} {fd : FuncData} (F : Fun K "first_numbers" "first_numbers" s_first_numbers f fd) (B : Blt mg) (c_product : Dn P w K mg base 3 "product" (spProduct K)) (c_is_less : Dn P w K mg base 1 "is_less" (spLess K)) {n : Nat}
    (c_first_numbers : Dn P w K mg base (n + 4) "first_numbers" (spFirst K n)) : FnOk P w K mg base CX0 (n + 5) f fd ["stock", "goal", "many", "begin", "ahead"] (spFirst K (n + 1)) := by
  have nd := sc_first_numbers.nd
  refine F.ok sc_first_numbers (fun vs H Q E h => ?_) (fun cdv A outer s H vs Q E hr h => ?_)
  · obtain ⟨_, _, _, _, _, _, _, _, rfl, _⟩ := h
    rfl
  · obtain ⟨a, g, c, st, goal, many, begin, pre, rfl, hprs, S, hg, G, hc, hge, hbl, hm, hmz, q⟩ := h
    obtain ⟨ps, hs, hps⟩ := hprs
    have hpl := Paired.length hps
    have z1 := S.lo
    have z2 := S.hi
    have G1 := G.lo
    have G2 := G.le
    have G3 := G.hi
    refine ⟨_, 
    (pss_cons (ps_if (pt_cmpR op_eq (pv 2) pe_int (nomark _)) (pss_one (ps_ret (pe_ifExp (pt_cmpR (eqD (K := K) rfl hr.units) (pv 4) (pv 1) (nomark _)) (pe_lstN pa_nil) pe_non))) pss_nil)
    (pss_cons (ps_for PassesOwn.never rfl (pi_range2 (by rfl) B.range (pa_cons (pv 3) (pa_cons (pe_callB (lenK (K := K) rfl) (by rfl) B.len PySem.boot_len (pa_cons (pv 0) pa_nil)) pa_nil))) (pg_name (i := 5) nd rfl (Or.inl rfl)) (pss_cons (ps_set (i := 6) nd rfl (Or.inl rfl) (pe_d c_product hr (by omega) passL (by rfl) (pa_cons (pv 4) (pa_cons (pe_ix (ixl (K := K) rfl) (pv 0) (pv 5) (fun _ _ => rfl)) pa_nil))))
    (pss_one (ps_if (pt_not (pt_val (pe_d c_is_less hr (by omega) passL (by rfl) (pa_cons (pv 6) (pa_cons (pv 1) pa_nil))))) (pss_cons (ps_set (i := 7) nd rfl (Or.inl rfl) (pe_d c_first_numbers hr (by omega) passL (by rfl) (pa_cons (pv 0) (pa_cons (pv 1) (pa_cons (pe_op op_sub (pv 2) pe_int) (pa_cons (pv 5) (pa_cons (pv 6) pa_nil)))))))
    (pss_one (ps_if (pt_cmpR op_notN (pv 7) pe_non (nomark _)) (pss_one (ps_ret (pe_op op_catN (pe_lstN (pa_cons (pv 5) pa_nil)) (pv 7)))) pss_nil))) pss_nil))))
    (pss_one (ps_ret pe_non)))), ?_⟩
    try dsimp only [cxOf, Cx.nox, Cx.wish]
    walk_at "norm"
    walk_at "go"
    refine ite2 (fun k => ?_) (fun k => ?_)
    · have k : many = 0 := by
        have := V.int.inj (of_decide_eq_true k)
        omega
      subst k
      have dc : Dp K H (.ref c) (pairD (valR st pre)) := pair_dp hc
      have dg : Dp K H (.ref g) (pairD goal) := pair_dp hg
      walk_at "go"
      refine ⟨_, _, dc, dg, pairD_shaped _, pairD_shaped _, ?_⟩
      rw [pairD_eqv]
      have q : ∀ v H', Ex H H' → optL K H H' (if valR st pre = goal then some [] else none) v → Q v H' := q
      refine ⟨_, rfl, ?_⟩
      refine ite2 (fun k => ?_) (fun k => ?_)
      · have k := of_decide_eq_true k
        rw [if_pos k] at q
        walk_at "go"
        exact nL_intro fun p H1 np e1 hp => q _ _ e1 ⟨p, rfl, np, hp⟩
      · have k := not_dec k
        rw [if_neg k] at q
        walk_at "go"
        exact q _ _ (Ex.refl _) rfl
    · have k : many ≠ 0 := fun z => k (decide_eq_true (by rw [z]; rfl))
      obtain ⟨m, rfl⟩ := Nat.exists_eq_succ_of_ne_zero k
      walk_at "go"
      rw [List.length_map, hpl]
      have hN : ((st.length : Int) - (begin : Int)).toNat = st.length - begin := by omega
      refine for_range (lo := (begin : Int)) (n := ((st.length : Int) - (begin : Int)).toNat) (fun i σ H' => ∃ y5 y6 y7 : Option V, σ = [some (.ref a), some (.ref g), some (.int ((m + 1 : Nat) : Int)), some (.int (begin : Int)), some (.ref c), y5, y6, y7] ∧ Ex H H' ∧
          firstN st goal (m + 1) begin (valR st pre) = (List.range' (begin + i) (st.length - begin - i)).findSome? fun n => if lessR (prodR (valR st pre) (rAt st n)) goal then none else (firstN st goal m n (prodR (valR st pre) (rAt st n))).map (n :: ·))
        ⟨_, _, _, rfl, Ex.refl _, rfl⟩ ?_ ?_
      · rintro i σ H' hi ⟨y5, y6, y7, rfl, e, hfn⟩
        rw [hN] at hi
        have hnl : begin + i < st.length := by omega
        have hp3 : ps[begin + i]? = some (ps[begin + i]'(by omega)) := List.getElem?_eq_getElem (by omega)
        obtain ⟨r, hr3, hsq⟩ := paired_at hps hp3
        generalize ps[begin + i]'(by omega) = pr at hp3 hsq
        have hat : atI (ps.map V.ref) ((begin : Int) + (i : Int)) = some (.ref pr) := by
          rw [show (begin : Int) + (i : Int) = ((begin + i : Nat) : Int) by omega]
          exact atI_nat (by rw [List.getElem?_map, hp3]; rfl)
        have hrat : rAt st (begin + i) = r := by
          unfold rAt
          rw [List.getD_eq_getElem?_getD, hr3]
          rfl
        rw [show st.length - begin - i = (st.length - begin - (i + 1)) + 1 by omega, List.range'_succ, List.findSome?_cons, hrat] at hfn
        have hpv : prodR (valR st pre) r = valR st ((begin + i) :: pre) := by rw [← hrat]; exact prod_val S.good _ _
        have M := val_mul S G hge (List.mem_of_getElem? hr3)
        walk_at "go"
        refine ⟨a, _, _, _, rfl, rfl, e.sqL hs, hat, ?_⟩
        walk_at "go"
        refine ⟨c, pr, valR st pre, r, rfl, e.sqT hc, e.sqT hsq, M, ?_⟩
        refine nT_intro fun t H4 nt e4 ht => ?_
        have e04 := e.trans e4
        walk_at "go"
        refine ⟨t, g, prodR (valR st pre) r, goal, rfl, .of ht, e04.sqT hg, by omega, by omega, ?_⟩
        walk_at "go"
        refine ite2 (fun k2 => ?_) (fun k2 => ?_)
        · have k2 : lessR (prodR (valR st pre) r) goal = false := by simpa using k2
          rw [if_neg (by rw [k2]; exact Bool.false_ne_true)] at hfn
          rw [hpv] at hfn k2 ht
          have hge2 : geV st goal ((begin + i) :: pre) := (less_ge S.good _).mp k2
          walk_at "go"
          refine ⟨a, g, t, st, goal, m, begin + i, (begin + i) :: pre, by simp, ⟨ps, e04.sqL hs, Paired.mapP hps fun _ _ z => e04.sqT z⟩, S, e04.sqT hg, G, .of ht, hge2, by omega, by omega, by omega, fun v H5 e5 hv => ?_⟩
          have e5 : Ex H4 H5 := e5
          cases hfm : firstN st goal m (begin + i) (valR st ((begin + i) :: pre)) with
          | none =>
            rw [hfm] at hv hfn
            have hv : v = .non := hv
            subst hv
            walk_at "go"
            exact ⟨_, _, _, rfl, e04.trans e5, hfn⟩
          | some ns =>
            rw [hfm] at hv hfn
            obtain ⟨p5, rfl, np5, hp5⟩ := (hv : ∃ p, v = .ref p ∧ H4 p = none ∧ H5 p = some (.lst (ns.map fun (n : Nat) => V.int (n : Int))))
            walk_at "go"
            refine nL_intro fun p6 H6 n6 e6 hp6 => ?_
            walk_at "go"
            refine ⟨p6, p5, _, _, rfl, rfl, hp6, e6 _ _ hp5, ?_, nL_intro fun p7 H7 n7 e7 hp7 => ?_⟩
            · have := firstN_len m _ _ ns hfm
              rw [List.length_map, List.length_singleton, sizeLine_eq]
              omega
            · rw [hfn] at q
              have e47 : Ex H4 H7 := e5.trans (e6.trans e7)
              refine q _ _ (e04.trans e47) ⟨p7, rfl, Ex.back (e04.trans (e5.trans e6)) n7, ?_⟩
              rw [hp7, show (begin : Int) + (i : Int) = ((begin + i : Nat) : Int) by omega]
              rfl
        · have k2 : lessR (prodR (valR st pre) r) goal = true := by simpa using k2
          rw [if_pos k2] at hfn
          exact ⟨_, _, _, rfl, e04, hfn⟩
      · rintro σ H' ⟨y5, y6, y7, rfl, e, hfn⟩
        rw [hN, show st.length - begin - (st.length - begin) = 0 by omega] at hfn
        rw [hfn] at q
        walk_at "go"
        exact q _ _ e rfl
theorem ok_firsts {f : Addr} {fd : FuncData} (F : Fun K "first_numbers" "first_numbers" s_first_numbers f fd) (B : Blt mg) (c_product : Dn P w K mg base 3 "product" (spProduct K)) (c_is_less : Dn P w K mg base 1 "is_less" (spLess K))
    (hm : mg "first_numbers" = some (.ref f)) (hk : PySem.W.keepIn K (.ref f) = true) (hb : Binds K fd ["stock", "goal", "many", "begin", "ahead"] []) : ∀ n, FnOk P w K mg base CX0 (n + 4) f fd ["stock", "goal", "many", "begin", "ahead"] (spFirst K n)
  | 0 => never_ok.imp fun _ _ _ _ h => by
    obtain ⟨_, _, _, _, _, _, _, _, _, _, _, _, _, _, _, _, z, _⟩ := h
    exact absurd z (Nat.not_lt_zero _)
  | n + 1 => step_first F B c_product c_is_less (.of0 (ok_firsts F B c_product c_is_less hm hk hb n) hm hk hb)


/-! ### the error of a wish that can't be, fewest -/
theorem sc_NoWish___init__ : FnScope ["self", "paper"] ["self", "paper"] (defScope s_NoWish___init__) := ⟨rfl, rfl, rfl, by decide +kernel, rfl, by decide +kernel, by decide +kernel⟩
def spNwInit (C : Addr) : Sp := fun vs H Q _ => ∃ (a : Addr) (v : V), vs = [.ref a, v] ∧ H a = some (exo a C none) ∧ ∀ dx H', H dx = none → dx ≠ a → H' = upd (upd H dx (exd dx [("paper", v)])) a (exo a C (some dx)) → Q .non H'
theorem ok_nwInit {f C CB : Addr} {fd : FuncData} (F : Fun K "__init__" "NoWish.__init__" s_NoWish___init__ f fd) (m_BeatError : mg "BeatError" = some (.ref CB)) (TI : InitC K CB) (T : OexC K C) (hno : PySem.W.findIn K (.ref C) "paper" = some none) :
    FnOk P w K mg base CX0 1 f fd ["self", "paper"] (spNwInit C) := by
  have nd := sc_NoWish___init__.nd
  refine F.ok sc_NoWish___init__ (fun vs H Q E h => ?_) (fun cdv A outer s H vs Q E hr h => ?_)
  · obtain ⟨_, _, rfl, _⟩ := h
    rfl
  · obtain ⟨a, v, rfl, he, q⟩ := h
    refine ⟨_, 
    (pss_cons (ps_expr (pe_cinit (by rfl) m_BeatError TI (pa_cons (pv 0) (pa_cons pe_str pa_nil))))
    (pss_one (ps_ost (pv 0) (pv 1)))), ?_⟩
    try dsimp only [cxOf, Cx.nox, Cx.wish]
    walk_at "norm"
    walk_at "go"
    refine ⟨a, C, _, rfl, by decide, T, he, ?_⟩
    walk_at "go"
    exact .inl ⟨he, fun dx n ne => q dx _ n ne rfl⟩
/-- the class NoWish, as raised -/
structure NwC (P : Program) (w : World) (K : PySem.W.Frag) (mg : Str → Option Value) (base : Heap) (C : Addr) : Prop where
  T : OexC K C
  gC : mg "NoWish" = some (.ref C)
  ex : ∃ (fI : Addr) (fd : FuncData), PySem.W.findIn K (.ref C) "__init__" = some (some (.ref fI)) ∧ PySem.W.typeIn K (.ref fI) = some (.type "function") ∧ FnOk P w K mg base CX0 1 fI fd ["self", "paper"] (spNwInit C) ∧ Binds K fd ["self", "paper"] []
theorem NwC.pmk {X : Cx} {C : Addr} {p pos : Pos} {e : Expr} {ta : TA} (N : NwC X.prog X.w X.K X.mg X.base C) (hr : Room 2 X.A) (hg : Gl X "NoWish") (ha : PA X [e] ta)
    (he : starEach (e :: []) X.env = (false, eval e X.env) :: starEach [] X.env := by rfl) (hpl : (backTo pos (starEach ([] : List Expr) X.env)).any (·.1) = false := by rfl) :
    PMk X (.Call (.Name "NoWish" p) [e] [] pos) (tMkO C (spNwInit C) [] ta) := by
  obtain ⟨fI, fd, iC, tI, F1, hb⟩ := N.ex
  exact pmk_oex N.T iC tI F1 hr hb .nil pass0 hg N.gC ha (by decide) he hpl
/-- a new list of new lists of pairs -/
def NewLv (H H' : Hp) (L a : Addr) (rs : List (Int × Int)) : Prop := a ≠ L ∧ H a = none ∧ LvAt H' a rs
def NewPaper (H H' : Hp) (L : Addr) (ps : List (List (Int × Int))) : Prop := ∃ ls : List Addr, H L = none ∧ H' L = some (.lst (ls.map V.ref)) ∧ Paired (NewLv H H' L) ls ps
theorem newLvs_ext {H H1 H' : Hp} {L : Addr} {ls : List Addr} {ps : List (List (Int × Int))} (h : Paired (NewLv H H1 L) ls ps) (e : Ex H1 H') : Paired (NewLv H H' L) ls ps := Paired.mapP h fun _ _ q => ⟨q.1, q.2.1, q.2.2.ext e⟩
theorem newLvs_upd {H H1 : Hp} {L : Addr} {ls : List Addr} {ps : List (List (Int × Int))} {xs ys : List V} (h : Paired (NewLv H H1 L) ls ps) (hl : H1 L = some (.lst xs)) : Paired (NewLv H (upd H1 L (.lst ys)) L) ls ps := Paired.mapP h fun _ _ q => ⟨q.1, q.2.1, q.2.2.upd q.1 hl⟩
theorem NewPaper.ext {H H1 H' : Hp} {L : Addr} {ps : List (List (Int × Int))} (h : NewPaper H H1 L ps) (e : Ex H1 H') : NewPaper H H' L ps := let ⟨ls, h1, h2, h3⟩ := h; ⟨ls, h1, e _ _ h2, newLvs_ext h3 e⟩
theorem NewPaper.dp {H H' : Hp} {L : Addr} {ps : List (List (Int × Int))} (h : NewPaper H H' L ps) : Dp K H' (.ref L) (ppD ps) := by
  obtain ⟨ls, _, h2, h3⟩ := h
  refine .lst (.of h2) ?_
  clear h2
  induction h3 with
  | nil => exact .nil
  | cons q _ ih => exact .cons (PrsL.dp q.2.2.prs) ih
theorem Stops.uniq {st : List (Int × Int)} {goal : Int × Int} {j k : Nat} (h : Stops st goal j) (h' : Stops st goal k) : j = k := by
  rcases Nat.lt_trichotomy j k with z | z | z
  · rcases h.at_ with q | q
    · exact absurd q (h'.go j z).1
    · exact absurd q (h'.go j z).2
  · exact z
  · rcases h'.at_ with q | q
    · exact absurd q (h.go k z).1
    · exact absurd q (h.go k z).2
theorem sc_fewest : FnScope ["stock", "wish", "goal", "paper", "level"] ["stock", "wish"] (defScope s_fewest) := ⟨rfl, rfl, rfl, by decide +kernel, rfl, by decide +kernel, by decide +kernel⟩
def spFewest (K : PySem.W.Frag) (CB CW : Addr) : Sp := fun vs H Q E => ∃ (v : V) (st : List (Int × Int)) (wa : Addr) (wish : Int × Int), vs = [v, .ref wa] ∧ StkAt K H v st ∧ st.length ≤ 1000 ∧ SqT K H wa (prV wish) ∧
  (stockB st = true → wishB wish = true → ∀ k, Stops st (red wish.1 wish.2) k →
    (∀ ns, firstN st (red wish.1 wish.2) k 0 (1, 1) = some ns → ∀ p l L H', red wish.1 wish.2 ∈ levelN st (red wish.1 wish.2) k → Ex H H' → H' p = some (.tup [.ref l, .ref L]) → H l = none → H' l = some (.lst (ns.map fun (n : Nat) => V.int (n : Int))) → NewPaper H H' L (paperN st (red wish.1 wish.2) k) → Q (.ref p) H') ∧
    (∀ d L H', red wish.1 wish.2 ∉ levelN st (red wish.1 wish.2) k → levelN st (red wish.1 wish.2) k = [] → Ex H H' → H' d = some (.xd [("paper", .ref L)]) → NewPaper H H' L (paperN st (red wish.1 wish.2) (k + 1)) → E (.ref CW) (some d) H')) ∧
  ((stockB st && wishB wish) = false → ∀ H', Ex H H' → E (.ref CB) none H')
theorem ok_fewest {f CB CW : Addr} {fd : FuncData} (F : Fun K "fewest" "fewest" s_fewest f fd) (B : Blt mg) (NW : NwC P w K mg base CW) (c_need_stock : Dn P w K mg base 3 "need_stock" (spNeedStock K CB)) (c_need_wish : Dn P w K mg base 2 "need_wish" (spNeedWish K CB))
    (c_reduced : Dn P w K mg base 2 "reduced" spReduced) (c_level_behind : Dn P w K mg base 4 "level_behind" (spLevel K)) (c_first_numbers : Dn P w K mg base 24 "first_numbers" (spFirst K 20)) : FnOk P w K mg base (L2.CX P w) 25 f fd ["stock", "wish"] (spFewest K CB CW) := by
  have nd := sc_fewest.nd
  refine F.okX sc_fewest (fun vs H Q E h => ?_) (fun cdv A outer s H vs Q E hr h => ?_)
  · obtain ⟨_, _, _, _, rfl, _⟩ := h
    rfl
  · obtain ⟨v, st, wa, wish, rfl, hst, z1, hw, q1, q2⟩ := h
    refine ⟨_, 
    (pss_cons (ps_expr (pe_d c_need_stock hr (by decide) (passes_call (takes_of rfl rfl rfl rfl) fun _ _ _ _ h => h) (by rfl) (pa_cons (pv 0) pa_nil)))
    (pss_cons (ps_expr (pe_d c_need_wish hr (by decide) (passes_call (takes_of rfl rfl rfl rfl) fun _ _ _ _ h => h) (by rfl) (pa_cons (pv 1) pa_nil)))
    (pss_cons (ps_set (i := 2) nd rfl (Or.inl rfl) (pe_d c_reduced hr (by decide) (passes_call (takes_of rfl rfl rfl rfl) fun _ _ _ _ h => h) (by rfl) (pa_cons (pe_ix (ixt (K := K) rfl) (pv 1) pe_int (fun _ _ => rfl)) (pa_cons (pe_ix (ixt (K := K) rfl) (pv 1) pe_int (fun _ _ => rfl)) pa_nil))))
    (pss_cons (ps_set (i := 3) nd rfl (Or.inl rfl) (pe_lstN pa_nil))
    (pss_cons (ps_set (i := 4) nd rfl (Or.inl rfl) (pe_lstN (pa_cons (pe_tupN (pa_cons pe_int (pa_cons pe_int pa_nil))) pa_nil)))
    (pss_cons (ps_while (passes_of rfl) (pt_cmpR (niDK (K := K) rfl (room65 hr)) (pv 2) (pv 4) (by rfl)) (pss_cons (ps_expr (pe_bm PySem.F.plainAttrs_list PySem.F.slot_list_append PySem.F.type_list_append mt_append (pv 3) (pa_cons (pv 4) pa_nil)))
    (pss_cons (ps_if (pt_cmp (eqNilD (K := K) rfl hr.units (pv 4))) (pss_one (ps_raise rfl (takes_of rfl rfl rfl rfl) (NW.pmk (hr.mono (by decide)) (by rfl) (pa_cons (pv 3) pa_nil)))) pss_nil)
    (pss_one (ps_set (i := 4) nd rfl (Or.inl rfl) (pe_d c_level_behind hr (by decide) (passes_call (takes_of rfl rfl rfl rfl) fun _ _ _ _ h => h) (by rfl) (pa_cons (pv 0) (pa_cons (pv 4) (pa_cons (pv 2) pa_nil)))))))))
    (pss_one (ps_ret (pe_tupN (pa_cons (pe_d c_first_numbers hr (by decide) (passes_call (takes_of rfl rfl rfl rfl) fun _ _ _ _ h => h) (by rfl) (pa_cons (pv 0) (pa_cons (pv 2) (pa_cons (pe_callB (lenK (K := K) rfl) (by rfl) B.len PySem.boot_len (pa_cons (pv 3) pa_nil)) (pa_cons pe_int (pa_cons (pe_tupN (pa_cons pe_int (pa_cons pe_int pa_nil))) pa_nil)))))) (pa_cons (pv 3) pa_nil))))))))))), ?_⟩
    try dsimp only [cxOf, Cx.nox, Cx.wish]
    walk_at "norm"
    walk_at "go"
    refine ⟨fun k1 H1 e1 => ?_, fun k1 H1 e1 => q2 (by rw [k1]; rfl) _ e1⟩
    walk_at "go"
    refine ⟨fun k2 H2 e2 => ?_, fun k2 H2 e2 => q2 (by rw [k1, k2]; rfl) _ (e1.trans e2)⟩
    have q := q1 k1 k2
    have S := stockB_of k1
    have G0 := wishB_of.mp k2
    obtain ⟨G, gg1, gg2⟩ := goal_of G0
    have g1 := G0.lo
    have g2 := G0.le
    have g3 := G0.hi
    have hw2 : SqT K H2 wa [.int wish.1, .int wish.2] := (e1.trans e2).sqT hw
    walk_at "go"
    refine nT_intro fun gp H3 ng e3 hgp => ?_
    have hgp : H3 gp = some (.tup (prV (red wish.1 wish.2))) := hgp
    generalize red wish.1 wish.2 = goal at *
    obtain ⟨sa, rfl, hprs⟩ := hst.prs
    have e03 : Ex H H3 := e1.trans (e2.trans e3)
    walk_at "go"
    refine nL_intro fun L H4 nL e4 hL => ?_
    walk_at "go"
    refine nT_intro fun t0 H5 n5 e5 ht0 => ?_
    walk_at "go"
    refine nL_intro fun l0 H6 n6 e6 hl0 => ?_
    walk_at "go"
    have hprs3 := hprs.ext e03
    have z3 := S.lo
    have z4 := S.hi
    have G1 := G.lo
    have G2 := G.le
    have G3 := G.hi
    have nLH : H L = none := e03.back nL
    have e36 : Ex H3 H6 := e4.trans (e5.trans e6)
    have hL6 : H6 L = some (.lst []) := e6 _ _ (e5 _ _ hL)
    have hl0n : NewLv H H6 L l0 (levelN st goal 0) := ⟨(ne_of_none (e5 _ _ hL) n6).symm, Ex.back (e03.trans (e4.trans e5)) n6, [t0], hl0, .cons (e6 _ _ ht0) .nil⟩
    refine ⟨fun m σ H' => ∃ (i : Nat) (ls : List Addr) (la : Addr), σ = [some (.ref sa), some (.ref wa), some (.ref gp), some (.ref L), some (.ref la)] ∧ Ex H3 H' ∧ m = 14 - i ∧ H' L = some (.lst (ls.map V.ref)) ∧ Paired (NewLv H H' L) ls (paperN st goal i) ∧ NewLv H H' L la (levelN st goal i) ∧
      ∀ j, j < i → goal ∉ levelN st goal j ∧ levelN st goal j ≠ [], ⟨_, 0, [], l0, rfl, e36, rfl, hL6, .nil, hl0n, fun j hj => absurd hj (Nat.not_lt_zero _)⟩, ?_⟩
    rintro m σ H' ⟨i, ls, la, rfl, e, rfl, hL', hls, hla, hgo⟩
    have hi14 : i ≤ 13 := by
      rcases Nat.lt_or_ge 13 i with z | z
      · exact absurd (levelN_end S.good G (Nat.le_refl 13)) (hgo 13 z).2
      · exact z
    have hpn : (paperN st goal i).length = i := by unfold paperN; rw [List.length_map, List.length_range]
    have hlsl : ls.length = i := by rw [Paired.length hls, hpn]
    have dG : Dp K H' (.ref gp) (pairD goal) := pair_dp (.of (e _ _ hgp))
    walk_at "go"
    refine ⟨_, _, dG, hla.2.2.prs.dp, pairD_shaped _, pairs_shaped _, ?_⟩
    rw [pairD_any]
    refine ⟨_, rfl, ?_⟩
    refine ite2 (fun c => ?_) (fun c => ?_)
    · have c : goal ∉ levelN st goal i := of_bnot c
      have hm := level_many S.good G S.lo S.hi i
      have hm1 := level_many S.good G S.lo S.hi (i + 1)
      refine ⟨fun σ' H' => ∃ (ls : List Addr) (la : Addr), σ' = [some (.ref sa), some (.ref wa), some (.ref gp), some (.ref L), some (.ref la)] ∧ Ex H3 H' ∧ H' L = some (.lst (ls.map V.ref)) ∧ Paired (NewLv H H' L) ls (paperN st goal (i + 1)) ∧ NewLv H H' L la (levelN st goal (i + 1)) ∧
        goal ∉ levelN st goal i ∧ levelN st goal i ≠ [], ?_, ?_⟩
      · rintro σ' H' ⟨ls, la, rfl, e, h1, h2, h3, h4, h5⟩
        refine ⟨14 - (i + 1), by omega, i + 1, ls, la, rfl, e, rfl, h1, h2, h3, fun j hj => ?_⟩
        rcases Nat.lt_or_ge j i with z | z
        · exact hgo j z
        · rw [show j = i by omega]
          exact ⟨h4, h5⟩
      · walk_at "go"
        refine ⟨.inl ⟨rfl, _, .of hL'⟩, ?_⟩
        walk_at "go"
        refine ⟨L, _, _, rfl, rfl, hL', by rw [List.length_map, sizeLine_eq]; omega, ?_⟩
        have hL5 : upd H' L (.lst (ls.map V.ref ++ [V.ref la])) L = some (.lst ((ls ++ [la]).map V.ref)) := by rw [upd_same, List.map_append]; rfl
        have hls5 : Paired (NewLv H (upd H' L (.lst (ls.map V.ref ++ [V.ref la]))) L) (ls ++ [la]) (paperN st goal (i + 1)) := by
          rw [paperN_succ]
          exact newLvs_upd (hls.snoc hla) hL'
        have e5' : Ex H3 (upd H' L (.lst (ls.map V.ref ++ [V.ref la]))) := Ex.mut e nL
        have hla5 : NewLv H (upd H' L (.lst (ls.map V.ref ++ [V.ref la]))) L la (levelN st goal i) := ⟨hla.1, hla.2.1, hla.2.2.upd hla.1 hL'⟩
        generalize upd H' L (.lst (ls.map V.ref ++ [V.ref la])) = H7 at hL5 hls5 e5' hla5 ⊢
        walk_at "go"
        refine ⟨la, _, rfl, hla5.2.2.prs.dp, pairs_shaped _, nE_intro fun H8 e8 => ?_⟩
        have hemp : (List.map pairD (levelN st goal i)).isEmpty = decide (levelN st goal i = []) := by cases levelN st goal i <;> rfl
        rw [hemp]
        refine ⟨_, rfl, ?_⟩
        refine ite2 (fun c2 => ?_) (fun c2 => ?_)
        · have c2 := of_decide_eq_true c2
          walk_at "go"
          intro a na
          refine ⟨a, .ref L, rfl, upd_same, fun dx H9 nd2 ne eH => ⟨rfl, dx, [("paper", .ref L)], ?_, ?_, ?_, ?_⟩⟩
          · rw [eH]
            exact upd_same
          · rw [eH, upd_ne ne]
            exact upd_same
          · rw [upd_ne ne] at nd2
            exact nd2
          · have nd3 : H8 dx = none := by
              rw [upd_ne ne] at nd2
              exact nd2
            have e89 : Ex H8 (upd (del H9 a) dx (.xd [("paper", .ref L)])) := fun b o hb => by
              have n1 : b ≠ dx := ne_of_none hb nd3
              have n2 : b ≠ a := ne_of_none hb na
              rw [upd_ne n1, del_ne n2, eH, upd_ne n2, upd_ne n1, upd_ne n2]
              exact hb
            refine (q i ⟨hgo, .inr c2⟩).2 dx L _ c c2 (e03.trans (e5'.trans (e8.trans e89))) upd_same ?_
            exact ⟨ls ++ [la], nLH, e89 _ _ (e8 _ _ hL5), newLvs_ext hls5 (e8.trans e89)⟩
        · have c2 := not_dec c2
          have e38 : Ex H3 H8 := e5'.trans e8
          walk_at "go"
          refine ⟨sa, la, gp, st, levelN st goal i, goal, rfl, hprs3.ext e38, (hla5.2.2.ext e8).prs, .of (e38 _ _ hgp), by omega, by omega, level_mul S G i, by omega, by omega, Nat.le_trans hm1 (by decide), ?_⟩
          refine nP_intro fun l2 H9 as2 n9 e9 hl2 hp2 => ?_
          have hL8 := e8 _ _ hL5
          exact ⟨ls ++ [la], l2, rfl, e38.trans e9, e9 _ _ hL8, newLvs_ext hls5 (e8.trans e9), ⟨(ne_of_none hL8 n9).symm, Ex.back (e03.trans e38) n9, as2, hl2, hp2⟩, c, c2⟩
    · have c : goal ∈ levelN st goal i := not_bnot c
      obtain ⟨ns, _, hns, _⟩ := first_found S.good G c
      walk_at "go"
      refine nT_intro fun t2 H5 n5 e5 ht2 => ?_
      have ht2 : SqT K H5 t2 (prV (valR st [])) := by
        rw [val_nil]
        exact .of ht2
      have e35 : Ex H3 H5 := e.trans e5
      walk_at "go"
      rw [List.length_map, hlsl]
      refine ⟨sa, gp, t2, st, goal, i, 0, [], rfl, hprs3.ext e35, S, .of (e35 _ _ hgp), G, ht2, ge_nil G, Nat.zero_le _, by omega, by omega, fun v H6 e6 hv => ?_⟩
      have e6 : Ex H5 H6 := e6
      rw [val_nil, hns] at hv
      obtain ⟨l, rfl, nl, hl⟩ := (hv : ∃ p, v = .ref p ∧ H5 p = none ∧ H6 p = some (.lst (ns.map fun (n : Nat) => V.int (n : Int))))
      walk_at "go"
      refine nT_intro fun p H7 np e7 hp => ?_
      refine (q i ⟨hgo, .inl c⟩).1 ns hns p l L H7 c (e03.trans (e35.trans (e6.trans e7))) hp (Ex.back (e03.trans e35) nl) (e7 _ _ hl) ?_
      exact ⟨ls, nLH, e7 _ _ (e6 _ _ (e5 _ _ hL')), newLvs_ext hls (e5.trans (e6.trans e7))⟩


/-! ### the law's own first numbers -/
theorem bfs_val {st : List (Int × Int)} (S : ∀ r ∈ st, GoodR r) {goal : Int × Int} (G : GoalOk goal) : ∀ (k : Nat) (w : List Nat × (Int × Int)), w ∈ bfsW st goal k → ∃ pre : List Nat, w.2 = valR st pre ∧ geV st goal pre ∧ w.1.getLastD 0 ≤ st.length ∧ w.1.length = k
  | 0, w, h => by
    rw [List.mem_singleton.mp h]
    exact ⟨[], val_nil.symm, ge_nil G, Nat.zero_le _, rfl⟩
  | k + 1, w, h => by
    obtain ⟨u, hu, hw⟩ := List.mem_flatMap.mp h
    obtain ⟨pre, h1, h2, h3, h4⟩ := bfs_val S G k u hu
    obtain ⟨n, hn, hv⟩ := List.mem_filterMap.mp hw
    by_cases c : lessR (prodR u.2 (rAt st n)) goal = true
    · rw [if_pos c] at hv
      cases hv
    · rw [if_neg c] at hv
      cases hv
      rw [h1] at c ⊢
      rw [prod_val S] at c ⊢
      have hlt := List.mem_range'.mp hn
      obtain ⟨i, hi, e⟩ := hlt
      refine ⟨n :: pre, rfl, (less_ge S _).mp (by simpa using c), ?_, by rw [List.length_append, h4]; rfl⟩
      have : (u.1 ++ [n]).getLastD 0 = n := by simp
      show (u.1 ++ [n]).getLastD 0 ≤ _
      rw [this]
      omega
/-- an expression, cut from what follows it -/
theorem te_cut {te : TE} {σ : L2.St} {H : Hp} {Q : VK} (p : V → Hp → Prop) (h1 : ∀ Q' : VK, (∀ v H', p v H' → Q' v H') → te σ H Q') (h2 : ∀ v H', p v H' → Q v H') : te σ H Q := h1 Q h2
theorem flat_part {α β : Type} {f : α → List β} {L : List α} {j : Nat} {x : α} {m : List β} (hx : L[j]? = some x) (hm : m.length ≤ (f x).length) : ((L.take j).flatMap f ++ m).length ≤ (L.flatMap f).length := by
  have h1 : L = L.take j ++ (x :: L.drop (j + 1)) := by
    obtain ⟨h, rfl⟩ := List.getElem?_eq_some_iff.mp hx
    rw [← List.drop_eq_getElem_cons h, List.take_append_drop]
  have h2 : (L.flatMap f).length = ((L.take j).flatMap f).length + ((f x).length + ((L.drop (j + 1)).flatMap f).length) := by
    conv => lhs; rw [h1]
    rw [List.flatMap_append, List.flatMap_cons, List.length_append, List.length_append]
  rw [List.length_append, h2]
  omega
def stepOne (st : List (Int × Int)) (goal : Int × Int) (w : List Nat × (Int × Int)) (n : Nat) : Option (List Nat × (Int × Int)) := if lessR (prodR w.2 (rAt st n)) goal then none else some (w.1 ++ [n], prodR w.2 (rAt st n))
def stepsOf (st : List (Int × Int)) (goal : Int × Int) (w : List Nat × (Int × Int)) : List (List Nat × (Int × Int)) := (List.range' (w.1.getLastD 0) (st.length - w.1.getLastD 0)).filterMap (stepOne st goal w)
theorem stepW_eq {st : List (Int × Int)} {goal : Int × Int} {L : List (List Nat × (Int × Int))} : stepW st goal L = L.flatMap (stepsOf st goal) := rfl
def nZ (ns : List Nat) : List Int := ns.map fun (n : Nat) => (n : Int)
theorem nZ_last (ns : List Nat) : (nZ ns).getLastD 0 = ((ns.getLastD 0 : Nat) : Int) := by
  unfold nZ
  rw [List.getLastD_eq_getLast?, List.getLastD_eq_getLast?, List.getLast?_map]
  cases ns.getLast? <;> rfl
def WayAt (H : Hp) (a : Addr) (w : List Nat × (Int × Int)) : Prop := ∃ l r : Addr, H a = some (.tup [.ref l, .ref r]) ∧ H l = some (.lst ((nZ w.1).map V.int)) ∧ H r = some (.tup (prV w.2))
def WayL (L : Addr) (H : Hp) (a : Addr) (w : List Nat × (Int × Int)) : Prop := ∃ l r : Addr, l ≠ L ∧ H a = some (.tup [.ref l, .ref r]) ∧ H l = some (.lst ((nZ w.1).map V.int)) ∧ H r = some (.tup (prV w.2))
theorem WayL.way {L : Addr} {H : Hp} {a : Addr} {w : List Nat × (Int × Int)} (h : WayL L H a w) : WayAt H a w := let ⟨l, r, _, h⟩ := h; ⟨l, r, h⟩
theorem WayAt.ext {H H' : Hp} {a : Addr} {w : List Nat × (Int × Int)} (h : WayAt H a w) (e : Ex H H') : WayAt H' a w := let ⟨l, r, h1, h2, h3⟩ := h; ⟨l, r, e _ _ h1, e _ _ h2, e _ _ h3⟩
theorem WayL.ext {L : Addr} {H H' : Hp} {a : Addr} {w : List Nat × (Int × Int)} (h : WayL L H a w) (e : Ex H H') : WayL L H' a w := let ⟨l, r, n, h1, h2, h3⟩ := h; ⟨l, r, n, e _ _ h1, e _ _ h2, e _ _ h3⟩
theorem WayL.upd {L : Addr} {H : Hp} {a : Addr} {w : List Nat × (Int × Int)} {xs ys : List V} (h : WayL L H a w) (hl : H L = some (.lst xs)) : WayL L (upd H L (.lst ys)) a w := by
  obtain ⟨l, r, n, h1, h2, h3⟩ := h
  exact ⟨l, r, n, by rw [upd_ne (fun z => by rw [z, hl] at h1; cases h1)]; exact h1, by rw [upd_ne n]; exact h2, by rw [upd_ne (fun z => by rw [z, hl] at h3; cases h3)]; exact h3⟩
/-- the first part of what stands there -/
def partOf (H : Hp) (a : Addr) : V := match H a with
  | some (.tup (x :: _)) => x
  | _ => .non
theorem ways_first {H : Hp} {goal : Int × Int} : ∀ {as : List Addr} {ws : List (List Nat × (Int × Int))} {ns : List Nat} {r : List (List Nat)}, Paired (WayAt H) as ws → (ws.filter (hitW goal)).map (·.1) = ns :: r →
    ∃ (l : Addr) (rest : List V), ((as.zip ws).filter fun z => hitW goal z.2).map (fun z => partOf H z.1) = .ref l :: rest ∧ H l = some (.lst ((nZ ns).map V.int))
  | _, _, ns, r, .nil, h => by cases h
  | a :: as, w :: ws, ns, r, .cons hw t, h => by
    rw [List.zip_cons_cons]
    by_cases c : hitW goal w = true
    · rw [List.filter_cons_of_pos c] at h
      rw [List.filter_cons_of_pos (p := fun z : Addr × (List Nat × (Int × Int)) => hitW goal z.2) (a := (a, w)) c]
      obtain ⟨l, r2, h1, h2, _⟩ := hw
      rw [List.map_cons] at h
      have e := (List.cons.inj h).1
      have hp : partOf H a = .ref l := by unfold partOf; rw [h1]
      rw [List.map_cons]
      show ∃ l' rest, partOf H a :: _ = _ ∧ _
      rw [hp]
      exact ⟨l, _, rfl, by rw [← e]; exact h2⟩
    · rw [List.filter_cons_of_neg c] at h
      rw [List.filter_cons_of_neg (p := fun z : Addr × (List Nat × (Int × Int)) => hitW goal z.2) (a := (a, w)) c]
      exact ways_first t h
theorem sc__law_first : FnScope ["_law_stock_here", "_law_goal", "_law_count", "_law_ways", "_law_turn", "_law_longer", "_law_numbers", "_law_ratio", "_law_k", "_law_more"] ["_law_stock_here", "_law_goal", "_law_count"] (defScope s__law_first) := ⟨rfl, rfl, rfl, by decide +kernel, rfl, by decide +kernel, by decide +kernel⟩
def spFirstL (K : PySem.W.Frag) : Sp := fun vs H Q _ => ∃ (v : V) (st : List (Int × Int)) (g : Addr) (goal : Int × Int) (k : Nat), vs = [v, .ref g, .int (k : Int)] ∧ StkAt K H v st ∧ StockOk st ∧ SqT K H g (prV goal) ∧ GoalOk goal ∧ k ≤ 13 ∧ goal ∈ levelN st goal k ∧
  ∀ l H' ns, Ex H H' → firstN st goal k 0 (1, 1) = some ns → H' l = some (.lst ((nZ ns).map V.int)) → Q (.ref l) H'
theorem ok__law_first {f : Addr} {fd : FuncData} (F : Fun K "_law_first" "_law_first" s__law_first f fd) (B : Blt mg) (c__law_reduced : Dn P w K mg base 2 "_law_reduced" spReduced) : FnOk P w K mg base CX0 3 f fd ["_law_stock_here", "_law_goal", "_law_count"] (spFirstL K) := by
  have nd := sc__law_first.nd
  refine F.ok sc__law_first (fun vs H Q E h => ?_) (fun cdv A outer s H vs Q E hr h => ?_)
  · obtain ⟨_, _, _, _, _, rfl, _⟩ := h
    rfl
  · obtain ⟨v, st, g, goal, k, rfl, hst, S, hg, G, hk, hgo, q⟩ := h
    obtain ⟨sa, rfl, ps, hs, hps⟩ := hst.prs
    have hpl := Paired.length hps
    have z1 := S.lo
    have z2 := S.hi
    have G1 := G.lo
    have G2 := G.le
    have G3 := G.hi
    obtain ⟨ns0, rr, hns0, hfil⟩ := first_found S.good G hgo
    refine ⟨_, 
    (pss_cons (ps_set (i := 3) nd rfl (Or.inl rfl) (pe_lstN (pa_cons (pe_tupN (pa_cons (pe_lstN pa_nil) (pa_cons (pe_tupN (pa_cons pe_int (pa_cons pe_int pa_nil))) pa_nil))) pa_nil)))
    (pss_cons (ps_for PassesOwn.never rfl (pi_range1 (by rfl) B.range (pa_cons (pv 2) pa_nil)) (pg_name (i := 4) nd rfl (Or.inl rfl)) (pss_cons (ps_set (i := 5) nd rfl (Or.inl rfl) (pe_lstN pa_nil))
    (pss_cons (ps_for PassesOwn.never rfl (pi_list (pv 3)) (pg_tup rfl (pgs_cons (pg_name (i := 6) nd rfl (Or.inl rfl)) (pgs_cons (pg_name (i := 7) nd rfl (Or.inl rfl)) pgs_nil))) (pss_one (ps_for PassesOwn.never rfl (pi_range2 (by rfl) B.range (pa_cons (pe_ifExp (pt_cmp (eqNil (K := K) rfl hr.units (pv 6))) (pe_ix (ixl (K := K) rfl) (pe_op op_catN (pv 6) (pe_lstN (pa_cons pe_int pa_nil))) (pe_un un_neg pe_int) (fun _ _ => rfl)) (pe_ix (ixl (K := K) rfl) (pv 6) (pe_un un_neg pe_int) (fun _ _ => rfl))) (pa_cons (pe_callB (lenK (K := K) rfl) (by rfl) B.len PySem.boot_len (pa_cons (pv 0) pa_nil)) pa_nil))) (pg_name (i := 8) nd rfl (Or.inl rfl)) (pss_cons (ps_set (i := 9) nd rfl (Or.inl rfl) (pe_d c__law_reduced hr (by decide) passL (by rfl) (pa_cons (pe_op op_mul (pe_ix (ixt (K := K) rfl) (pv 7) pe_int (fun _ _ => rfl)) (pe_ix (ixt (K := K) rfl) (pe_ix (ixl (K := K) rfl) (pv 0) (pv 8) (fun _ _ => rfl)) pe_int (fun _ _ => rfl))) (pa_cons (pe_op op_mul (pe_ix (ixt (K := K) rfl) (pv 7) pe_int (fun _ _ => rfl)) (pe_ix (ixt (K := K) rfl) (pe_ix (ixl (K := K) rfl) (pv 0) (pv 8) (fun _ _ => rfl)) pe_int (fun _ _ => rfl))) pa_nil))))
    (pss_one (ps_if (pt_cmpR op_ge (pe_op op_mul (pe_ix (ixt (K := K) rfl) (pv 9) pe_int (fun _ _ => rfl)) (pe_ix (ixt (K := K) rfl) (pv 1) pe_int (fun _ _ => rfl))) (pe_op op_mul (pe_ix (ixt (K := K) rfl) (pv 1) pe_int (fun _ _ => rfl)) (pe_ix (ixt (K := K) rfl) (pv 9) pe_int (fun _ _ => rfl))) (nomark _)) (pss_one (ps_expr (pe_bm PySem.F.plainAttrs_list PySem.F.slot_list_append PySem.F.type_list_append mt_append (pv 5) (pa_cons (pe_tupN (pa_cons (pe_op op_catN (pv 6) (pe_lstN (pa_cons (pv 8) pa_nil))) (pa_cons (pv 9) pa_nil))) pa_nil)))) pss_nil))))))
    (pss_one (ps_set (i := 3) nd rfl (Or.inl rfl) (pv 5))))))
    (pss_one (ps_ret (pe_ix (ixl (K := K) rfl) (pe_lc (own := [("_law_numbers", 6), ("_law_ratio", 7)]) (g := gTup K 2 (gCons (gName 6) (gCons (gName 7) gNil))) rfl nd (pi_list (pv 3)) (blkOk_by (N := ["_law_stock_here", "_law_goal", "_law_count", "_law_ways", "_law_turn", "_law_longer", "_law_numbers", "_law_ratio", "_law_k", "_law_more"]) (sc := defScope s__law_first) (by decide +kernel)) (fun _ _ _ _ _ => (pg_tup rfl (pgs_cons (pg_name (i := 6) nd rfl (Or.inl rfl)) (pgs_cons (pg_name (i := 7) nd rfl (Or.inl rfl)) pgs_nil)))) (fun _ _ _ _ _ => (pts_one (pt_cmpR (eqD (K := K) rfl hr.units) (pv 7) (pv 1) (nomark _)))) (fun _ _ _ _ _ => (pv 6))) pe_int (fun _ _ => rfl)))))), ?_⟩
    try dsimp only [cxOf, Cx.nox, Cx.wish]
    walk_at "norm"
    walk_at "go"
    refine nL_intro fun l0 H1 n1 e1 hl0 => ?_
    walk_at "go"
    refine nT_intro fun t0 H2 n2 e2 ht0 => ?_
    walk_at "go"
    refine nT_intro fun a0 H3 n3 e3 ha0 => ?_
    walk_at "go"
    refine nL_intro fun W0 H4 n4 e4 hW0 => ?_
    have e04 : Ex H H4 := e1.trans (e2.trans (e3.trans e4))
    have hw0 : WayAt H4 a0 ([], (1, 1)) := ⟨l0, t0, e4 _ _ ha0, e4 _ _ (e3 _ _ (e2 _ _ hl0)), e4 _ _ (e3 _ _ ht0)⟩
    walk_at "go"
    rw [Int.toNat_natCast]
    refine for_range (lo := 0) (n := k) (fun i σ H' => ∃ (W : Addr) (as : List Addr) (y4 y5 y6 y7 y8 y9 : Option V), σ = [some (.ref sa), some (.ref g), some (.int (k : Int)), some (.ref W), y4, y5, y6, y7, y8, y9] ∧ Ex H H' ∧ H' W = some (.lst (as.map V.ref)) ∧ Paired (WayAt H') as (bfsW st goal i))
      ⟨W0, [a0], _, _, _, _, _, _, rfl, e04, hW0, .cons hw0 .nil⟩ ?_ ?_
    · rintro i σ H5 hi ⟨W, as, y4, y5, y6, y7, y8, y9, rfl, e5, hW, has⟩
      walk_at "go"
      refine nL_intro fun L H6 nL e6 hL => ?_
      have hb1 : (bfsW st goal (i + 1)).length ≤ 38416 := by rw [bfs_eq]; exact ways_many z1 z2 (by omega)
      have hW6 := e6 _ _ hW
      walk_at "go"
      refine for_list (K := K) (a := W) (xs := as.map V.ref) (fun j σ H' => ∃ (bs : List Addr) (y6 y7 y8 y9 : Option V), σ = [some (.ref sa), some (.ref g), some (.int (k : Int)), some (.ref W), some (.int (0 + (i : Int))), some (.ref L), y6, y7, y8, y9] ∧ Ex H5 H' ∧ H' L = some (.lst (bs.map V.ref)) ∧
          Paired (WayL L H') bs (((bfsW st goal i).take j).flatMap (stepsOf st goal)))
        ⟨[], _, _, _, _, rfl, e6, hL, .nil⟩ (fun i σ H' _ ⟨_, _, _, _, _, _, e, _⟩ => .of (e _ _ hW)) ?_ ?_
      · rintro j x σ H' hj ⟨bs, y6, y7, y8, y9, rfl, e, hL', hbs⟩
        rw [List.getElem?_map] at hj
        obtain ⟨aj, haj, rfl⟩ := Option.map_eq_some_iff.mp hj
        obtain ⟨w, hwj, hway⟩ := paired_at has haj
        obtain ⟨l, r, w15, w25, w35⟩ := hway
        have nlL : l ≠ L := ne_of_none w25 nL
        have w1 := e _ _ w15
        have w2 := e _ _ w25
        have w3 := e _ _ w35
        obtain ⟨pre, p1, p2, p3, p4⟩ := bfs_val S.good G i w (List.mem_of_getElem? hwj)
        have hta : SqT K H' aj [.ref l, .ref r] := .of w1
        have hpart : ∀ m : List (List Nat × (Int × Int)), m.length ≤ (stepsOf st goal w).length → (((bfsW st goal i).take j).flatMap (stepsOf st goal) ++ m).length ≤ 38416 := fun m hm => Nat.le_trans (flat_part hwj hm) hb1
        refine ⟨aj, _, rfl, hta, rfl, .ref l, _, rfl, .ref r, _, rfl, rfl, ?_⟩
        show (tFor _ _ _ : TS) _ _ _
        refine te_cut (te := tIf (tB (tNilI K (tVar 6))) _ _) (fun v H7 => v = .int ((w.1.getLastD 0 : Nat) : Int) ∧ Ex H' H7) (fun Q' hQ => ?_) ?_
        · refine ⟨_, rfl, l, nZ w.1, rfl, .of w2, nE_intro fun H7 e7 => ⟨_, rfl, ?_⟩⟩
          refine ite2 (fun c => ?_) (fun c => ?_)
          · have c : w.1 = [] := by
              have := of_decide_eq_true c
              unfold nZ at this
              exact List.map_eq_nil_iff.mp this
            walk_at "go"
            refine nL_intro fun p8 H8 n8 e8 hp8 => ?_
            refine ⟨l, p8, _, _, rfl, rfl, e8 _ _ (e7 _ _ w2), hp8, ?_, nL_intro fun p9 H9 n9 e9 hp9 => ?_⟩
            · rw [c, sizeLine_eq]
              decide
            rw [c] at hp9 hQ
            walk_at "go"
            exact hQ _ _ ⟨rfl, e7.trans (e8.trans e9)⟩
          · have c : nZ w.1 ≠ [] := not_dec c
            have w27 := e7 _ _ w2
            walk_at "go"
            refine ⟨l, _, _, _, rfl, rfl, .of w27, atI_lastI c, ?_⟩
            rw [nZ_last]
            exact hQ _ _ ⟨rfl, e7⟩
        · rintro _ H7 ⟨rfl, e7⟩
          have hs7 := (e5.trans (e.trans e7)).sqL hs
          walk_at "go"
          rw [List.length_map, hpl]
          have hN : ((st.length : Int) - ((w.1.getLastD 0 : Nat) : Int)).toNat = st.length - w.1.getLastD 0 := by omega
          refine for_range (lo := ((w.1.getLastD 0 : Nat) : Int)) (n := ((st.length : Int) - ((w.1.getLastD 0 : Nat) : Int)).toNat) (fun m σ H' => ∃ (bs : List Addr) (y8 y9 : Option V), σ = [some (.ref sa), some (.ref g), some (.int (k : Int)), some (.ref W), some (.int (0 + (i : Int))), some (.ref L), some (.ref l), some (.ref r), y8, y9] ∧ Ex H5 H' ∧ H' L = some (.lst (bs.map V.ref)) ∧
              WayL L H' aj w ∧ Paired (WayL L H') bs (((bfsW st goal i).take j).flatMap (stepsOf st goal) ++ (List.range' (w.1.getLastD 0) m).filterMap (stepOne st goal w)))
            ⟨bs, _, _, rfl, e.trans e7, e7 _ _ hL', ⟨l, r, nlL, e7 _ _ w1, e7 _ _ w2, e7 _ _ w3⟩, by rw [List.range'_zero, List.filterMap_nil, List.append_nil]; exact Paired.mapP hbs fun _ _ z => z.ext e7⟩ ?_ ?_
          · rintro m σ HA hm ⟨bs, y8, y9, rfl, eA, hLA, ⟨l', r', _, w1A, w2A, w3A⟩, hbsA⟩
            rw [hN] at hm
            have e0A : Ex H HA := e5.trans eA
            have hnl : w.1.getLastD 0 + m < st.length := by omega
            have hp3 : ps[w.1.getLastD 0 + m]? = some (ps[w.1.getLastD 0 + m]'(by omega)) := List.getElem?_eq_getElem (by omega)
            obtain ⟨rr2, hr3, hsq⟩ := paired_at hps hp3
            generalize ps[w.1.getLastD 0 + m]'(by omega) = pr at hp3 hsq
            have hat : atI (ps.map V.ref) (((w.1.getLastD 0 : Nat) : Int) + (m : Int)) = some (.ref pr) := by
              rw [show ((w.1.getLastD 0 : Nat) : Int) + (m : Int) = ((w.1.getLastD 0 + m : Nat) : Int) by omega]
              exact atI_nat (by rw [List.getElem?_map, hp3]; rfl)
            have hrat : rAt st (w.1.getLastD 0 + m) = rr2 := by
              unfold rAt
              rw [List.getD_eq_getElem?_getD, hr3]
              rfl
            have MO := val_mul S G p2 (List.mem_of_getElem? hr3)
            rw [← p1] at MO
            obtain ⟨m1, m2, m3, m4, m5, m6⟩ := MO
            have n1 : 0 ≤ w.2.1 * rr2.1 := Int.mul_nonneg m1.1 m3
            have n2 : 0 ≤ w.2.2 * rr2.2 := Int.mul_nonneg m2.1 m4
            have hsA := e0A.sqL hs
            have hrA : SqT K HA r [.int w.2.1, .int w.2.2] := .of (eA _ _ w35)
            have hprA : SqT K HA pr [.int rr2.1, .int rr2.2] := e0A.sqT hsq
            have hgA : SqT K HA g [.int goal.1, .int goal.2] := e0A.sqT hg
            have hcat : (List.range' (w.1.getLastD 0) (m + 1)).filterMap (stepOne st goal w) = (List.range' (w.1.getLastD 0) m).filterMap (stepOne st goal w) ++ (stepOne st goal w (w.1.getLastD 0 + m)).toList := by
              rw [List.range'_1_concat, List.filterMap_append]
              congr 1
            have hso : stepOne st goal w (w.1.getLastD 0 + m) = if lessR (prodR w.2 rr2) goal then none else some (w.1 ++ [w.1.getLastD 0 + m], prodR w.2 rr2) := by
              unfold stepOne
              rw [hrat]
            have hbl : bs.length ≤ 38416 := by
              rw [Paired.length hbsA]
              refine hpart _ ?_
              unfold stepsOf
              have hsplit : List.range' (w.1.getLastD 0) (st.length - w.1.getLastD 0) = List.range' (w.1.getLastD 0) m ++ List.range' (w.1.getLastD 0 + m) (st.length - w.1.getLastD 0 - m) := by
                rw [List.range'_append_1]
                congr 1
                omega
              rw [hsplit, List.filterMap_append, List.length_append]
              omega
            walk_at "go"
            refine ⟨sa, _, _, _, rfl, rfl, hsA, hat, ?_⟩
            walk_at "go"
            refine ⟨sa, _, _, _, rfl, rfl, hsA, hat, ?_⟩
            walk_at "go"
            refine nT_intro fun tm HB ntm eB htm => ?_
            have htm : HB tm = some (.tup (prV (prodR w.2 rr2))) := htm
            have htm2 : SqT K HB tm [.int (prodR w.2 rr2).1, .int (prodR w.2 rr2).2] := .of htm
            have e5B : Ex H5 HB := eA.trans eB
            have hLB := eB _ _ hLA
            have hwL : WayL L HB aj w := ⟨l, r, nlL, e5B _ _ w15, e5B _ _ w25, e5B _ _ w35⟩
            walk_at "go"
            refine ite2 (fun c => ?_) (fun c => ?_)
            · have c : lessR (prodR w.2 rr2) goal = false := by
                unfold lessR
                exact decide_eq_false (by have := of_decide_eq_true c; omega)
              walk_at "go"
              refine ⟨.inl ⟨rfl, _, .of hLB⟩, ?_⟩
              have hlB : HB l = some (.lst ((nZ w.1).map V.int)) := e5B _ _ w25
              walk_at "go"
              refine nL_intro fun pk HC npk eC hpk => ?_
              refine ⟨l, pk, _, _, rfl, rfl, eC _ _ hlB, hpk, ?_, nL_intro fun pn HD npn eD hpn => ?_⟩
              · rw [List.length_map, List.length_singleton, sizeLine_eq]
                unfold nZ
                rw [List.length_map]
                omega
              walk_at "go"
              refine nT_intro fun pt HE npt eE hpt => ?_
              have eBE : Ex HB HE := eC.trans (eD.trans eE)
              have hLE := eBE _ _ hLB
              walk_at "go"
              refine ⟨L, _, _, rfl, rfl, hLE, by rw [List.length_map, sizeLine_eq]; omega, ?_⟩
              refine ⟨bs ++ [pt], _, _, rfl, Ex.mut (e5B.trans eBE) nL, by rw [upd_same, List.map_append]; rfl, WayL.upd (hwL.ext eBE) hLE, ?_⟩
              rw [hcat, hso, if_neg (by rw [c]; exact Bool.false_ne_true), ← List.append_assoc]
              refine Paired.snoc (Paired.mapP hbsA fun _ _ z => (z.ext (eB.trans eBE)).upd hLE) (WayL.upd ⟨pn, tm, ?_, hpt, ?_, eBE _ _ htm⟩ hLE)
              · exact ne_of_none (eC _ _ hLB) npn |>.symm
              · rw [eE _ _ hpn]
                unfold nZ
                rw [List.map_append, List.map_append]
                rfl
            · have c : lessR (prodR w.2 rr2) goal = true := by
                unfold lessR
                exact decide_eq_true (by have := not_dec c; omega)
              refine ⟨bs, _, _, rfl, e5B, hLB, hwL, ?_⟩
              rw [hcat, hso, if_pos c, Option.toList_none, List.append_nil]
              exact Paired.mapP hbsA fun _ _ z => z.ext eB
          · rintro σ HA ⟨bs, y8, y9, rfl, eA, hLA, _, hbsA⟩
            rw [hN] at hbsA
            refine ⟨bs, _, _, _, _, rfl, eA, hLA, ?_⟩
            rw [List.take_add_one, hwj, List.flatMap_append]
            have : (some w).toList.flatMap (stepsOf st goal) = stepsOf st goal w := by simp
            rw [this]
            exact hbsA
      · rintro σ H' ⟨bs, y6, y7, y8, y9, rfl, e, hL', hbs⟩
        rw [List.length_map, Paired.length has, List.take_length] at hbs
        walk_at "go"
        exact ⟨L, bs, _, _, _, _, _, _, rfl, e5.trans e, hL', Paired.mapP hbs fun _ _ z => z.way⟩
    · rintro σ H5 ⟨W, as, y4, y5, y6, y7, y8, y9, rfl, e5, hW, has⟩
      have hal := Paired.length has
      have hb1 : (bfsW st goal k).length ≤ 38416 := by rw [bfs_eq]; exact ways_many z1 z2 (by omega)
      walk_at "go"
      refine lc_out (fun i => ((as.zip (bfsW st goal k))[i]?).bind fun z => if hitW goal z.2 then some (partOf H5 z.1) else none) (Goes.list (.of hW)) (by rw [List.length_map]; omega) ?_ ?_
      · rintro j x H' hj e' hx R hR
        have hx : (as.map V.ref)[j]? = some x := hx
        rw [List.getElem?_map] at hx
        obtain ⟨aj, haj, rfl⟩ := Option.map_eq_some_iff.mp hx
        obtain ⟨w, hwj, hway⟩ := paired_at has haj
        obtain ⟨l, r, w1, w2, w3⟩ := hway
        have hta : SqT K H' aj [.ref l, .ref r] := .of (e' _ _ w1)
        have hz : (as.zip (bfsW st goal k))[j]? = some (aj, w) := by
          rw [List.getElem?_zip_eq_some]
          exact ⟨haj, hwj⟩
        have hpt : partOf H5 aj = .ref l := by unfold partOf; rw [w1]
        have dr : Dp K H' (.ref r) (pairD w.2) := pair_dp (.of (e' _ _ w3))
        have dg : Dp K H' (.ref g) (pairD goal) := pair_dp ((e5.trans e').sqT hg)
        have hR2 : ∀ o H4, (if hitW goal w then some (V.ref l) else none) = o → Ex H' H4 → R o H4 := fun o H4 ho e4 => hR o H4 (by rw [hz, ← ho, ← hpt]; rfl) e4
        walk_at "go"
        refine ⟨_, _, dr, dg, pairD_shaped _, pairD_shaped _, ?_⟩
        rw [pairD_eqv]
        refine ⟨_, rfl, ?_⟩
        refine ite2 (fun c => ?_) (fun c => ?_)
        · walk_at "go"
          exact hR2 _ _ (if_pos c) (Ex.refl _)
        · exact hR2 _ _ (if_neg c) (Ex.refl _)
      intro D HA nD eA hD
      have hzl : (as.map V.ref).length = (as.zip (bfsW st goal k)).length := by rw [List.length_map, List.length_zip]; omega
      rw [hzl, outs_filter (l := as.zip (bfsW st goal k)) (p := fun z => hitW goal z.2) (f := fun z => partOf H5 z.1) (fun i z hz => by rw [hz]; rfl)] at hD
      obtain ⟨l, rest, hl1, hl2⟩ := ways_first has hfil
      rw [hl1] at hD
      refine ⟨D, _, 0, _, rfl, rfl, .of hD, atI_nat (j := 0) rfl, ?_⟩
      exact q l HA ns0 (e5.trans eA) hns0 (eA _ _ hl2)


/-! ### what fewest tells, or its refusal's paper -/
theorem sc__law_asked : FnScope ["_law_stock_here", "_law_wish_here", "e", "_law_other"] ["_law_stock_here", "_law_wish_here"] (defScope s__law_asked) := ⟨rfl, rfl, rfl, by decide +kernel, rfl, by decide +kernel, by decide +kernel⟩
def spAsked (K : PySem.W.Frag) : Sp := fun vs H Q _ => ∃ (v : V) (st : List (Int × Int)) (wa : Addr) (wish : Int × Int), vs = [v, .ref wa] ∧ StkAt K H v st ∧ StockOk st ∧ SqT K H wa (prV wish) ∧ GoalOk wish ∧ ∀ k, Stops st (red wish.1 wish.2) k →
  (∀ ns, firstN st (red wish.1 wish.2) k 0 (1, 1) = some ns → ∀ p l L H', red wish.1 wish.2 ∈ levelN st (red wish.1 wish.2) k → Ex H H' → H' p = some (.tup [.ref l, .ref L]) → H' l = some (.lst ((nZ ns).map V.int)) → NewPaper H H' L (paperN st (red wish.1 wish.2) k) → Q (.ref p) H') ∧
  (∀ p L H', red wish.1 wish.2 ∉ levelN st (red wish.1 wish.2) k → levelN st (red wish.1 wish.2) k = [] → Ex H H' → H' p = some (.tup [.str "no", .ref L]) → NewPaper H H' L (paperN st (red wish.1 wish.2) (k + 1)) → Q (.ref p) H')
theorem kind_none {CB C0 C1 C2 C3 C4 C5 : Addr} (KA : KindAt K CB C0 C1 C2 C3 C4 C5 C4 4) : PySem.W.kitAny K (.ref C4) ([C3, C2, C0, C5, C1].map Value.ref) = some false := by
  have k0 := KA.k0
  have k1 := KA.k1
  have k2 := KA.k2
  have k3 := KA.k3
  have k5 := KA.k5
  simp only [List.map_cons, List.map_nil, PySem.W.kitAny, k0, k1, k2, k3, k5]
  rfl
theorem ok__law_asked {f CB C0 C1 C2 C3 C4 C5 : Addr} {fd : FuncData} (F : Fun K "_law_asked" "_law_asked" s__law_asked f fd) (B : Blt mg) (KC : KindCs mg CB C0 C1 C2 C3 C4 C5) (KA : KindAt K CB C0 C1 C2 C3 C4 C5 C4 4) (hX : XfC K C4) (hno : PySem.W.findIn K (.ref C4) "paper" = some none)
    (c_fewest : Dn P w K mg base 25 "fewest" (spFewest K C3 C4)) : FnOk P w K mg base CX0 26 f fd ["_law_stock_here", "_law_wish_here"] (spAsked K) := by
  have nd := sc__law_asked.nd
  refine F.ok sc__law_asked (fun vs H Q E h => ?_) (fun cdv A outer s H vs Q E hr h => ?_)
  · obtain ⟨_, _, _, _, rfl, _⟩ := h
    rfl
  · obtain ⟨v, st, wa, wish, rfl, hst, S, hw, G0, q⟩ := h
    have mVE := KC.v
    have g_NoBeat := KC.n0
    have g_TooLong := KC.n1
    have g_Ends := KC.n2
    have g_BadStock := KC.n3
    have g_NoWish := KC.n4
    have g_NoNote := KC.n5
    refine ⟨_, pss_one (ps_try_as (i := 2) (c := .ref CB)
      (ts := fun a cls d Dn σ H => cls = .ref C4 ∧ ∃ (dd L : Addr) (x y z : Option V), d = some dd ∧ H dd = some (.xd [("paper", .ref L)]) ∧ σ = [x, y, some (.ref a), z] ∧ ∀ p H', Ex H H' → H' p = some (.tup [.str "no", .ref L]) → Dn.rt (.ref p) H')
      rfl rfl nd rfl rfl ⟨rfl, by decide, .inl KC.b⟩ takes0
      (fun W pn xe tk _ => pss_one (ps_ret (pe_dS c_fewest hr (by decide) (fun σ => passAt tk σ) (by rfl) (pa_cons (pv 0) (pa_cons (pv 1) pa_nil)))))
      (fun a oe cls d pn hz hf => ?_)), ?_⟩
    · refine TD.PSs.case fun Dn σ' H' h' => ?_
      obtain ⟨rfl, dd, L, x, y, z, rfl, hdd, rfl, hq⟩ := h'
      have hC := KA.c
      have hod : ∀ {H2 : Hp}, Ex H' H2 → OdAt H2 (some dd) := fun e dd' e2 => by
        cases e2
        exact ⟨_, e _ _ hdd⟩
      refine ⟨_, (pss_cons (ps_set (i := 3) nd rfl (Or.inl rfl) (pe_callB (call_isOT hC hz hf) (by rfl) B.isinstance bt_isinstance (pa_cons (pv 2) (pa_cons (pe_tupN (pa_cons (pe_gl rfl g_BadStock) (pa_cons (pe_gl rfl g_Ends) (pa_cons (pe_gl rfl g_NoBeat) (pa_cons (pe_gl rfl g_NoNote) (pa_cons (pe_gl rfl g_TooLong) pa_nil)))))) pa_nil))))
    (pss_one (ps_ret (pe_ifExp (PW.pt (pw_and (pt_val (pe_callB (call_isO hC hz hf) (by rfl) B.isinstance bt_isinstance (pa_cons (pv 2) (pa_cons (pe_gl rfl g_NoWish) pa_nil)))) (pw_and (pt_val (pe_callB (call_isO hC hz hf) (by rfl) B.isinstance bt_isinstance (pa_cons (pv 2) (pa_cons (pe_bltn (v := .ty "ValueError") (u := Value.type "ValueError") (by rfl) mVE bt_VE rfl) pa_nil)))) (pw_and1 (pt_not (pt_val (pv 3))))))) (pe_tupN (pa_cons pe_str (pa_cons (pe_xf hX hno hz hf (pv 2)) pa_nil))) (pe_tupN (pa_cons pe_str (pa_cons (pe_lstN pa_nil) pa_nil))))))), ?_⟩
      refine ⟨_, rfl, ?_⟩
      refine ⟨Nat.le_trans (show 5 ≤ 100000 by decide) (by decide), nT_intro fun tp H1 np e1 htp => ?_⟩
      refine ⟨tp, [C3, C2, C0, C5, C1], false, rfl, htp, hod e1, kind_none KA, ?_⟩
      refine ⟨_, rfl, .ref C4, .ref C4, true, rfl, fun u hu => hu, hod e1, KA.k4, ?_⟩
      refine ⟨_, rfl, iteT ?_⟩
      refine ⟨_, rfl, .ty "ValueError", .type "ValueError", true, rfl, fun u hu => hu, hod e1, KA.v, ?_⟩
      refine ⟨_, rfl, iteT ?_⟩
      refine ⟨_, rfl, false, rfl, iteT ?_⟩
      refine ⟨_, rfl, rfl, rfl, dd, _, .ref L, rfl, e1 _ _ hdd, rfl, ?_⟩
      refine ⟨Nat.le_trans (show 2 ≤ 100000 by decide) (by decide), nT_intro fun rp H2 nr e2 hrp => ?_⟩
      exact hq rp _ (e1.trans e2) hrp
    · have S2 := stockB_ok S
      have W2 := wishB_of.mpr G0
      walk_at "go"
      refine ⟨v, st, wa, wish, rfl, hst, by have := S.hi; omega, hw, fun _ _ k hk => ⟨fun ns hns p l L H' hg e hp nl hl hP => (q k hk).1 ns hns p l L H' hg e hp ?_ hP, fun d L H' hg he e hd hP => ?_⟩, fun z => ?_⟩
      · unfold nZ
        rw [List.map_map]
        exact hl
      · refine ⟨true, KA.b, fun _ a na => ?_, fun z => nomatch z⟩
        refine ⟨rfl, d, L, _, _, _, rfl, hd, rfl, fun p H2 e2 hp => (q k hk).2 p L H2 hg he (e.trans e2) hp (hP.ext e2)⟩
      · rw [S2, W2] at z
        cases z


/-! ### copies of papers -/
theorem dpAll_take {H : Hp} {vs : List V} {ds : List PyData} (h : DpAll K H vs ds) : ∀ n, DpAll K H (vs.take n) (ds.take n) := by
  induction vs generalizing ds with
  | nil => intro n; cases h; rw [List.take_nil, List.take_nil]; exact .nil
  | cons v r ih =>
    intro n
    cases h with
    | cons a b =>
      cases n with
      | zero => exact .nil
      | succ n => exact .cons a (ih b n)
theorem dpAll_drop {H : Hp} {vs : List V} {ds : List PyData} (h : DpAll K H vs ds) : ∀ n, DpAll K H (vs.drop n) (ds.drop n) := by
  induction vs generalizing ds with
  | nil => intro n; cases h; rw [List.drop_nil, List.drop_nil]; exact .nil
  | cons v r ih =>
    intro n
    cases h with
    | cons a b =>
      cases n with
      | zero => exact .cons a b
      | succ n => exact ih b n
theorem PrsL.stk {H : Hp} {a : Addr} {st : List (Int × Int)} (h : PrsL K H a st) : StkAt K H (.ref a) st := by
  obtain ⟨ps, h1, h2⟩ := h
  exact ⟨a, ps, rfl, h1, Paired.length h2, fun i p r e1 e2 => by
    obtain ⟨r', e3, q⟩ := paired_at h2 e1
    rw [e2] at e3
    cases e3
    exact q⟩
theorem dpAll_pairsD {H H' : Hp} {D : Addr} {zs : List V} (hD : H D = some (.lst zs)) (e : Ext D H H') : ∀ {ys : List V} {l : List (Int × Int)}, DpAll K H ys (l.map pairD) → DpAll K H' ys (l.map pairD)
  | [], [], h => .nil
  | [], r :: l, h => nomatch h
  | y :: ys, [], h => nomatch h
  | y :: ys, r :: l, h => by
    cases h with
    | cons a b =>
      refine .cons ?_ (dpAll_pairsD hD e b)
      unfold pairD at a
      cases a with
      | tup hs ha =>
        cases ha with
        | cons a1 ha =>
          cases a1
          cases ha with
          | cons a2 ha =>
            cases a2
            cases ha
            exact pair_dp (sqT_extD hs hD e)
/-- copies of lists of pairs, made by a comprehension -/
def CopyAt (K : PySem.W.Frag) (ps : List (List (Int × Int))) (D : Addr) (i : Nat) (y : V) (H : Hp) : Prop := ∃ (a : Addr) (ys : List V) (l : List (Int × Int)), y = .ref a ∧ a ≠ D ∧ H a = some (.lst ys) ∧ ps[i]? = some l ∧ DpAll K H ys (l.map pairD)
theorem copy_stays {ps : List (List (Int × Int))} : ∀ D i y H H' xs xs', H D = some (.lst xs) → Ext D H H' → H' D = some (.lst xs') → CopyAt K ps D i y H → CopyAt K ps D i y H' := by
  rintro D i y H H' xs xs' hD e hD' ⟨a, ys, l, rfl, n, h1, h2, h3⟩
  exact ⟨a, ys, l, rfl, n, e _ _ n h1, h2, dpAll_pairsD hD e h3⟩
theorem copies_dp {ps : List (List (Int × Int))} {D : Addr} {H : Hp} {xs : List V} (hl : xs.length = ps.length) (h : ∀ (i : Nat) (y : V), xs[i]? = some y → CopyAt K ps D i y H) : DpAll K H xs (ps.map lvD) := by
  induction xs generalizing ps with
  | nil =>
    cases ps with
    | nil => exact .nil
    | cons _ _ => simp at hl
  | cons x xs ih =>
    cases ps with
    | nil => simp at hl
    | cons p ps =>
      obtain ⟨a, ys, l, rfl, _, h1, h2, h3⟩ := h 0 x rfl
      cases h2
      exact .cons (.lst (.of h1) h3) (ih (by simpa using hl) fun i y hy => h (i + 1) y hy)
theorem ppD_shaped (ps : List (List (Int × Int))) : SeqAt.shaped (ppD ps) = true := by
  refine (shaped_of fun d hd => ?_).1
  obtain ⟨l, _, rfl⟩ := List.mem_map.mp hd
  have h := shaped_iff.mp (pairs_shaped l)
  refine ⟨h.1, ?_⟩
  have : PyData.depthAll (l.map pairD) ≤ 1 := depthAll_mem fun d hd => by
    obtain ⟨r, _, rfl⟩ := List.mem_map.mp hd
    simp [pairD, PyData.depth, PyData.depthAll]
  show PyData.depth (.list (l.map pairD)) ≤ 63
  rw [PyData.depth]
  omega


/-! ### the law -/
/-- what is due: the first numbers, or a word -/
def DueIs (st : List (Int × Int)) (goal : Int × Int) (k kk : Nat) (hd : PyData) : Prop :=
  (goal ∈ levelN st goal k ∧ kk = k ∧ ∃ ns, firstN st goal k 0 (1, 1) = some ns ∧ hd = .list ((nZ ns).map PyData.int)) ∨ (goal ∉ levelN st goal k ∧ levelN st goal k = [] ∧ kk = k + 1 ∧ hd = .str "no")
theorem asked_both {H : Hp} {Q : Addr → Hp → Prop} {st : List (Int × Int)} {goal : Int × Int} {k kk : Nat} {hd : PyData} (hk : Stops st goal k) (hg : DueIs st goal k kk hd)
    (h : ∀ fp x L H', Ex H H' → H' fp = some (.tup [x, .ref L]) → Dp K H' x hd → NewPaper H H' L (paperN st goal kk) → Q fp H') : ∀ k', Stops st goal k' →
    (∀ ns, firstN st goal k' 0 (1, 1) = some ns → ∀ p l L H', goal ∈ levelN st goal k' → Ex H H' → H' p = some (.tup [.ref l, .ref L]) → H' l = some (.lst ((nZ ns).map V.int)) → NewPaper H H' L (paperN st goal k') → Q p H') ∧
    (∀ p L H', goal ∉ levelN st goal k' → levelN st goal k' = [] → Ex H H' → H' p = some (.tup [.str "no", .ref L]) → NewPaper H H' L (paperN st goal (k' + 1)) → Q p H') := by
  intro k' hk'
  cases hk.uniq hk'
  rcases hg with ⟨g1, rfl, ns, g2, rfl⟩ | ⟨g1, g2, rfl, rfl⟩
  · refine ⟨fun ns' h1 p l L H' _ e h2 h3 h4 => ?_, fun p L H' z => absurd g1 z⟩
    rw [g2] at h1
    cases h1
    exact h p _ L H' e h2 (LI.dp h3) h4
  · exact ⟨fun ns' _ p l L H' z => absurd z g1, fun p L H' _ _ e h2 h3 => h p _ L H' e h2 (.str _) h3⟩
theorem lvD_facts (l : List (Int × Int)) (hl : l.length ≤ 100000) : PyData.canLay0 (lvD l) = true ∧ narrow (lvD l) = true ∧ PyData.depth (lvD l) ≤ 2 := by
  have h := shaped_iff.mp (pairs_shaped l)
  refine ⟨h.1, ?_, ?_⟩
  · show (decide _ && narrowAll _) = true
    rw [Bool.and_eq_true]
    refine ⟨decide_eq_true (by rw [List.length_map]; exact hl), narrowAll_of fun d hd => ?_⟩
    obtain ⟨r, _, rfl⟩ := List.mem_map.mp hd
    simp [pairD, narrow, narrowAll]
  · have : PyData.depthAll (l.map pairD) ≤ 1 := depthAll_mem fun d hd => by
      obtain ⟨r, _, rfl⟩ := List.mem_map.mp hd
      simp [pairD, PyData.depth, PyData.depthAll]
    show PyData.depth (.list (l.map pairD)) ≤ 2
    rw [PyData.depth]
    omega
theorem ppD_facts (ps : List (List (Int × Int))) (hn : ps.length ≤ 100000) (hl : ∀ l ∈ ps, l.length ≤ 100000) : PyData.canLay0 (ppD ps) = true ∧ narrow (ppD ps) = true ∧ PyData.depth (ppD ps) ≤ 3 := by
  refine ⟨(shaped_iff.mp (ppD_shaped ps)).1, ?_, ?_⟩
  · show (decide _ && narrowAll _) = true
    rw [Bool.and_eq_true]
    refine ⟨decide_eq_true (by rw [List.length_map]; exact hn), narrowAll_of fun d hd => ?_⟩
    obtain ⟨l, hm, rfl⟩ := List.mem_map.mp hd
    exact (lvD_facts l (hl l hm)).2.1
  · have : PyData.depthAll (ps.map lvD) ≤ 2 := depthAll_mem fun d hd => by
      obtain ⟨l, hm, rfl⟩ := List.mem_map.mp hd
      exact (lvD_facts l (hl l hm)).2.2
    show PyData.depth (.list (ps.map lvD)) ≤ 3
    rw [PyData.depth]
    omega
theorem due_facts {st : List (Int × Int)} {goal : Int × Int} {k kk : Nat} {hd : PyData} (hg : DueIs st goal k kk hd) (hk : k ≤ 13) (ps : List (List (Int × Int))) (hn : ps.length ≤ 100000) (hl : ∀ l ∈ ps, l.length ≤ 100000) :
    SeqAt.shaped (.tuple [hd, ppD ps]) = true ∧ narrow (.tuple [hd, ppD ps]) = true ∧ PyData.depth (.tuple [hd, ppD ps]) < 40 := by
  have h0 : PyData.canLay0 hd = true ∧ narrow hd = true ∧ PyData.depth hd ≤ 3 := by
    rcases hg with ⟨_, _, ns, g2, rfl⟩ | ⟨_, _, _, rfl⟩
    · have h := shaped_iff.mp (shaped_ints (nZ ns))
      refine ⟨h.1, ?_, ?_⟩
      · show (decide _ && narrowAll _) = true
        rw [Bool.and_eq_true]
        refine ⟨decide_eq_true ?_, narrowAll_of fun d hd => ?_⟩
        · have := firstN_len k 0 _ ns g2
          unfold nZ
          rw [List.length_map, List.length_map]
          omega
        · obtain ⟨r, _, rfl⟩ := List.mem_map.mp hd
          simp [narrow]
      · rw [PyData.depth, depth_ints]
        decide
    · exact ⟨by show PyData.strOk _ = true; decide +kernel, by simp [narrow], by simp [PyData.depth]⟩
  obtain ⟨a1, a2, a3⟩ := h0
  obtain ⟨b1, b2, b3⟩ := ppD_facts ps hn hl
  have hdep : PyData.depthAll [hd, ppD ps] ≤ 3 := depthAll_mem fun d hd => by
    rcases List.mem_cons.mp hd with rfl | hd
    · exact a3
    · rw [List.mem_singleton.mp hd]
      exact b3
  refine ⟨(shaped_of fun d hd => ?_).2, ?_, ?_⟩
  · rcases List.mem_cons.mp hd with rfl | hd
    · exact ⟨a1, by omega⟩
    · rw [List.mem_singleton.mp hd]
      exact ⟨b1, by omega⟩
  · simp [narrow, narrowAll, a2, b2]
  · rw [PyData.depth]
    omega
theorem atI_neg1 {xs : List V} {v : V} (h : xs[xs.length - 1]? = some v) : atI xs (-1) = some v := by
  have hne : xs ≠ [] := fun z => by rw [z] at h; cases h
  have e : xs = xs.dropLast ++ [v] := by
    have h1 := List.getLast?_eq_getElem? (l := xs)
    rw [h] at h1
    have h2 := List.getLast?_eq_some_getLast hne
    rw [h2] at h1
    have h3 := Option.some.inj h1
    rw [← h3, List.dropLast_concat_getLast]
  rw [e]
  exact atI_last _ _
theorem sc_law : FnScope ["_law_script", "_law_h", "_law_turn", "_law_stock_here", "_law_wish_here", "_law_goal", "_law_every", "_law_due", "_law_handed", "_law_again", "_law_found", "_law_level_here"] ["_law_script"] (defScope s_law) := ⟨rfl, rfl, rfl, by decide +kernel, rfl, by decide +kernel, by decide +kernel⟩
def spLaw (K : PySem.W.Frag) : Sp := fun vs H Q _ => ∃ (a : Addr) (ns : List Int), vs = [.ref a] ∧ SqL K H a (ns.map V.int) ∧ ns.length ≤ 63 ∧ ∀ H', Q (.bl true) H'
theorem ok_law {f C : Addr} {fd : FuncData} (F : Fun K "law" "law" s_law f fd) (B : Blt mg) (c__law_mix : Dn P w K mg base 1 "_law_mix" (spMix K)) (c__law_next : Dn P w K mg base 1 "_law_next" spNext) (c__law_stock : Dn P w K mg base 2 "_law_stock" (spStock K))
    (c__law_wish : Dn P w K mg base 3 "_law_wish" (spWish K)) (c__law_reduced : Dn P w K mg base 2 "_law_reduced" spReduced) (c__law_levels : Dn P w K mg base 4 "_law_levels" (spLevels K)) (c__law_first : Dn P w K mg base 3 "_law_first" (spFirstL K))
    (c__law_asked : Dn P w K mg base 26 "_law_asked" (spAsked K)) (c__law_alike : Dn P w K mg base 41 "_law_alike" (spAlike K 40)) (c_shows : Dn P w K mg base 5 "shows" (spShows K C)) :
    FnOk P w K mg base CX0 100 f fd ["_law_script"] (spLaw K) := by
  have nd := sc_law.nd
  refine F.ok sc_law (fun vs H Q E h => ?_) (fun cdv A outer s H vs Q E hr h => ?_)
  · obtain ⟨a, ns, rfl, _⟩ := h
    rfl
  · obtain ⟨a, ns, rfl, hS, hl, q⟩ := h
    refine ⟨_, 
    (pss_cons (ps_set (i := 1) nd rfl (Or.inl rfl) (pe_d c__law_mix hr (by decide) passL (by rfl) (pa_cons (pv 0) (pa_cons pe_int pa_nil))))
    (pss_cons (ps_for PassesOwn.never rfl (pi_range1 (by rfl) B.range (pa_cons pe_int pa_nil)) (pg_name (i := 2) nd rfl (Or.inl rfl)) (pss_cons (ps_set (i := 3) nd rfl (Or.inl rfl) (pe_d c__law_stock hr (by decide) passL (by rfl) (pa_cons (pv 1) pa_nil)))
    (pss_cons (ps_set (i := 4) nd rfl (Or.inl rfl) (pe_d c__law_wish hr (by decide) passL (by rfl) (pa_cons (pv 1) (pa_cons (pv 3) pa_nil))))
    (pss_cons (ps_set (i := 5) nd rfl (Or.inl rfl) (pe_d c__law_reduced hr (by decide) passL (by rfl) (pa_cons (pe_ix (ixt (K := K) rfl) (pv 4) pe_int (fun _ _ => rfl)) (pa_cons (pe_ix (ixt (K := K) rfl) (pv 4) pe_int (fun _ _ => rfl)) pa_nil))))
    (pss_cons (ps_set (i := 6) nd rfl (Or.inl rfl) (pe_d c__law_levels hr (by decide) passL (by rfl) (pa_cons (pv 3) (pa_cons (pv 5) pa_nil))))
    (pss_cons (ps_set (i := 7) nd rfl (Or.inl rfl) (pe_tupN (pa_cons pe_str (pa_cons (pv 6) pa_nil))))
    (pss_cons (ps_if (pt_cmp (neNilD (K := K) rfl hr.units (pe_ix (ixl (K := K) rfl) (pv 6) (pe_un un_neg pe_int) (fun _ _ => rfl)))) (pss_one (ps_set (i := 7) nd rfl (Or.inl rfl) (pe_tupN (pa_cons (pe_d c__law_first hr (by decide) passL (by rfl) (pa_cons (pv 3) (pa_cons (pv 5) (pa_cons (pe_op op_sub (pe_callB (lenK (K := K) rfl) (by rfl) B.len PySem.boot_len (pa_cons (pv 6) pa_nil)) pe_int) pa_nil)))) (pa_cons (pe_slice (slK (K := K) rfl) (pv 6) po_none (po_some (pe_un un_neg pe_int))) pa_nil))))) pss_nil)
    (pss_cons (ps_set (i := 8) nd rfl (Or.inl rfl) (pe_callTy (listK (K := K) rfl) (by rfl) B.list bt_list (pa_cons (pv 3) pa_nil)))
    (pss_one (ps_for PassesOwn.never rfl (pi_range1 (by rfl) B.range (pa_cons pe_int pa_nil)) (pg_name (i := 9) nd rfl (Or.inl rfl)) (pss_cons (ps_set (i := 10) nd rfl (Or.inl rfl) (pe_d c__law_asked hr (by decide) passL (by rfl) (pa_cons (pv 8) (pa_cons (pv 4) pa_nil))))
    (pss_cons (ps_if (PW.pt (pw_or (pt_not (pt_val (pe_d c__law_alike hr (by decide) passL (by rfl) (pa_cons (pv 10) (pa_cons (pv 7) pa_nil))))) (pw_or1 (pt_cmpR (neD (K := K) rfl hr.units) (pv 8) (pv 3) (nomark _))))) (pss_one (ps_ret pe_bl)) pss_nil)
    (pss_cons (ps_if (pt_cmpR op_isnot_bl (pe_d c_shows hr (by decide) passL (by rfl) (pa_cons (pv 8) (pa_cons (pv 4) (pa_cons (pe_callB (lenK (K := K) rfl) (by rfl) B.len PySem.boot_len (pa_cons (pe_ix (ixt (K := K) rfl) (pv 7) pe_int (fun _ _ => rfl)) pa_nil)) (pa_cons (pe_lc (own := [("_law_level_here", 11)]) (g := gName 11) rfl nd (pi_list (pe_ix (ixt (K := K) rfl) (pv 10) pe_int (fun _ _ => rfl))) (blkOk_by (N := ["_law_script", "_law_h", "_law_turn", "_law_stock_here", "_law_wish_here", "_law_goal", "_law_every", "_law_due", "_law_handed", "_law_again", "_law_found", "_law_level_here"]) (sc := defScope s_law) (by decide +kernel)) (fun _ _ _ _ _ => pg_name (i := 11) nd rfl (Or.inl rfl)) (fun _ _ _ _ _ => pts_nil) (fun _ _ _ _ _ => (pe_callTy (listK (K := K) rfl) (by rfl) B.list bt_list (pa_cons (pv 11) pa_nil)))) pa_nil))))) pe_bl (nomark _)) (pss_one (ps_ret pe_bl)) pss_nil)
    (pss_cons (ps_for PassesOwn.never rfl (pi_list (pe_ix (ixt (K := K) rfl) (pv 10) pe_int (fun _ _ => rfl))) (pg_name (i := 11) nd rfl (Or.inl rfl)) (pss_one (ps_expr (pe_bm PySem.F.plainAttrs_list PySem.F.slot_list_append PySem.F.type_list_append mt_append (pv 11) (pa_cons (pe_tupN (pa_cons pe_int (pa_cons pe_int pa_nil))) pa_nil)))))
    (pss_one (ps_expr (pe_bm0 PySem.F.plainAttrs_list PySem.F.slot_list_reverse PySem.F.type_list_reverse mt_reverse (pe_ix (ixt (K := K) rfl) (pv 10) pe_int (fun _ _ => rfl)))))))))))))))))))
    (pss_one (ps_ret pe_bl)))), ?_⟩
    try dsimp only [cxOf, Cx.nox, Cx.wish]
    walk_at "norm"
    walk_at "go"
    refine ⟨a, ns, 29, rfl, hS, hl, fun h H1 e1 hR => ?_⟩
    walk_at "go"
    refine for_range (fun i σ H' => ∃ y2 y3 y4 y5 y6 y7 y8 y9 y10 y11 : Option V, σ = [some (.ref a), some (.ref h), y2, y3, y4, y5, y6, y7, y8, y9, y10, y11] ∧ Ex H1 H') ⟨_, _, _, _, _, _, _, _, _, _, rfl, Ex.refl _⟩ ?_ ?_
    · rintro i σ H2 hi ⟨y2, y3, y4, y5, y6, y7, y8, y9, y10, y11, rfl, e2⟩
      have hR2 := hR.ext e2
      walk_at "go"
      intro sv H3 st e3 hst S
      have e3 : Ex H2 H3 := e3
      have hR3 := hR2.ext e3
      walk_at "go"
      refine ⟨h, sv, st, rfl, hR3, hst, S, fun wa H4 wish e4 G0 hwa => ?_⟩
      have e4 : Ex H3 H4 := e4
      obtain ⟨G, gg1, gg2⟩ := goal_of G0
      have g1 := G0.lo
      have g2 := G0.le
      have g3 := G0.hi
      have hst4 := hst.ext e4
      have hwa2 : SqT K H4 wa [.int wish.1, .int wish.2] := .of hwa
      have z1 := S.lo
      have z2 := S.hi
      walk_at "go"
      refine nT_intro fun ga H5 n5 e5 hga => ?_
      have hga : H5 ga = some (.tup (prV (red wish.1 wish.2))) := hga
      have hst5 := hst4.ext e5
      walk_at "go"
      refine ⟨sv, st, ga, red wish.1 wish.2, rfl, hst5, S, .of hga, G, fun ev H6 k e6 hk hev => ?_⟩
      have e6 : Ex H5 H6 := e6
      obtain ⟨ep, es, rfl, hes, hesd⟩ := pp_inv hev
      have hkl := hk.le S G
      have hR6 : Rng H6 h := hR3.ext (e4.trans (e5.trans e6))
      have hga6 := e6 _ _ hga
      have hst6 := hst5.ext e6
      have hwa6 : H6 wa = some (.tup (prV wish)) := e6 _ _ (e5 _ _ hwa)
      have e26 : Ex H2 H6 := e3.trans (e4.trans (e5.trans e6))
      have hpl : ∀ k, (paperN st (red wish.1 wish.2) k).length = k := fun k => by unfold paperN; rw [List.length_map, List.length_range]
      have hpm : ∀ k, ∀ l ∈ paperN st (red wish.1 wish.2) k, l.length ≤ 38416 := fun k l hl => by
        unfold paperN at hl
        obtain ⟨j, _, rfl⟩ := List.mem_map.mp hl
        exact level_many S.good G S.lo S.hi j
      have hel : es.length = k + 1 := by rw [dpAll_len hesd, List.length_map, hpl]
      walk_at "go"
      refine nT_intro fun t1 H7 n7 e7 ht1 => ?_
      have hes7 := e7.sqL hes
      have hesd7 := e7.dpAll hesd
      generalize hgoal : red wish.1 wish.2 = goal at *
      try dsimp only [gName, List.set, tNext]
      refine seq_cutQ (fun σ' H' => ∃ (da dp : Addr) (x : V) (kk : Nat) (hd : PyData), σ' = [some (.ref a), some (.ref h), some (.int (0 + (i : Int))), some sv, some (.ref wa), some (.ref ga), some (.ref ep), some (.ref da), y8, y9, y10, y11] ∧ Ex H7 H' ∧ H' da = some (.tup [x, .ref dp]) ∧
          Dp K H' x hd ∧ Dp K H' (.ref dp) (ppD (paperN st goal kk)) ∧ DueIs st goal k kk hd) (fun N hN => ?_) ?_
      · obtain ⟨lv, dlv, hlv, hdlv, hlvd⟩ := dpAll_at hesd7 k (by rw [List.length_map, hpl]; omega)
        have hdlv2 : dlv = lvD (levelN st goal k) := by
          unfold paperN at hdlv
          rw [List.getElem?_map, List.getElem?_map, List.getElem?_range (by omega)] at hdlv
          cases hdlv
          rfl
        subst hdlv2
        obtain ⟨lva, lvs, rfl, hlvs, hlvp⟩ := lv_inv hlvd
        walk_at "go"
        refine ⟨ep, _, _, _, rfl, rfl, hes7, atI_neg1 (by rw [hel]; exact hlv), ?_⟩
        refine ⟨lva, _, rfl, hlvd, pairs_shaped _, nE_intro fun H8 e8 => ?_⟩
        have hemp : (List.map pairD (levelN st goal k)).isEmpty = decide (levelN st goal k = []) := by cases levelN st goal k <;> rfl
        rw [hemp]
        refine ⟨_, rfl, ?_⟩
        refine ite2 (fun c => ?_) (fun c => ?_)
        · have c : levelN st goal k ≠ [] := of_bnot c
          have hin : goal ∈ levelN st goal k := hk.at_.resolve_right c
          have hes8 := e8.sqL hes7
          walk_at "go"
          rw [hel]
          refine ⟨sv, st, ga, goal, k, by show [sv, V.ref ga, V.int (((k + 1 : Nat) : Int) - 1)] = _; rw [show ((k + 1 : Nat) : Int) - 1 = (k : Int) by omega], (hst6.ext e7).ext e8, S, .of (e8 _ _ (e7 _ _ hga6)), G, hkl, hin, fun l H9 ns e9 hns hl => ?_⟩
          have e9 : Ex H8 H9 := e9
          have hes9 := e9.sqL hes8
          walk_at "go"
          refine nL_intro fun dp HA ndp eA hdp => ?_
          rw [cut_but] at hdp
          walk_at "go"
          refine nT_intro fun da HB nda eB hda => ?_
          have e7B : Ex H7 HB := e8.trans (e9.trans (eA.trans eB))
          refine hN _ _ ⟨da, dp, .ref l, k, _, rfl, e7B, hda, LI.dp (ns := nZ ns) (eB _ _ (eA _ _ hl)), .lst (.of (eB _ _ hdp)) ?_, .inl ⟨hin, rfl, ns, hns, rfl⟩⟩
          rw [List.dropLast_eq_take, hel, show k + 1 - 1 = k by omega]
          have := dpAll_take (e7B.dpAll hesd7) k
          rw [paperN_succ, List.map_append, List.take_left' (by rw [List.length_map, hpl])] at this
          exact this
        · have c : levelN st goal k = [] := not_bnot c
          have hno : goal ∉ levelN st goal k := by rw [c]; exact fun z => (nomatch z)
          refine hN _ _ ⟨t1, ep, .str "no", k + 1, _, rfl, e8, e8 _ _ ht1, .str _, .lst (e8.sqL hes7) (e8.dpAll hesd7), .inr ⟨hno, c, rfl, rfl⟩⟩
      rintro σ H8 ⟨da, dp, x, kk, hd, rfl, e8, hda, hx, hdp, hdue⟩
      have hkk : kk ≤ 14 := by
        rcases hdue with ⟨_, rfl, _⟩ | ⟨_, _, rfl, _⟩ <;> omega
      have hpap : paperB st goal (paperN st goal kk) [(1, 1)] = true := by
        have := paper_true (st := st) (goal := goal) kk 0 (fun i _ hi => by
          rcases hdue with ⟨_, rfl, _⟩ | ⟨h1, _, rfl, _⟩
          · exact (hk.go i (by omega)).1
          · rcases Nat.lt_or_ge i k with z | z
            · exact (hk.go i z).1
            · rw [show i = k by omega]
              exact h1)
        rw [← List.range_eq_range'] at this
        exact this
      obtain ⟨sa, rfl, sps, hss, hsps⟩ := hst6.prs
      have e68 : Ex H6 H8 := e7.trans e8
      have hss8 := e68.sqL hss
      walk_at "go"
      refine nL_intro fun hd2 H9 nhd e9 hhd => ?_
      walk_at "go"
      refine for_range (fun i2 σ H' => ∃ y9 y10 y11 : Option V, σ = [some (.ref a), some (.ref h), some (.int (0 + (i : Int))), some (.ref sa), some (.ref wa), some (.ref ga), some (.ref ep), some (.ref da), some (.ref hd2), y9, y10, y11] ∧ Ex H9 H') ⟨_, _, _, rfl, Ex.refl _⟩ ?_ ?_
      · rintro i2 σ HA hi2 ⟨y9, y10, y11, rfl, eA⟩
        have e6A : Ex H6 HA := e68.trans (e9.trans eA)
        have hhdA := eA _ _ hhd
        have hprs : PrsL K HA hd2 st := ⟨sps, .of hhdA, Paired.mapP hsps fun _ _ z => e6A.sqT z⟩
        have hwaA : SqT K HA wa (prV wish) := .of (e6A _ _ hwa6)
        walk_at "go"
        refine ⟨.ref hd2, st, wa, wish, rfl, hprs.stk, S, hwaA, G0, ?_⟩
        rw [hgoal]
        refine asked_both (K := K) hk hdue fun fp x' L HB eB hfp hx' hNP => ?_
        have eB : Ex HA HB := eB
        have e8B : Ex H8 HB := e9.trans (eA.trans eB)
        have hpn : (paperN st goal kk).length = kk := hpl kk
        have hpm2 : ∀ l ∈ paperN st goal kk, l.length ≤ 38416 := hpm kk
        obtain ⟨f1, f2, f3⟩ := due_facts hdue hkl (paperN st goal kk) (by omega) (fun l hl => Nat.le_trans (hpm2 l hl) (by decide))
        have dfp : Dp K HB (.ref fp) (.tuple [hd, ppD (paperN st goal kk)]) := .tup (.of hfp) (.cons hx' (.cons hNP.dp .nil))
        have dda : Dp K HB (.ref da) (.tuple [hd, ppD (paperN st goal kk)]) := .tup (.of (e8B _ _ hda)) (.cons (e8B.dp hx) (.cons (e8B.dp hdp) .nil))
        walk_at "go"
        refine ⟨_, _, _, rfl, dfp, dda, f1, f2, f3, fun HC eC => ?_⟩
        have eC : Ex HB HC := eC
        have eAC : Ex HA HC := eB.trans eC
        have e6C : Ex H6 HC := e6A.trans eAC
        have hprsC := hprs.ext eAC
        have hprs0 : PrsL K HC sa st := ⟨sps, (e6C).sqL hss, Paired.mapP hsps fun _ _ z => e6C.sqT z⟩
        walk_at "go"
        refine ⟨_, _, hprsC.dp, hprs0.dp, pairs_shaped _, pairs_shaped _, ?_⟩
        rw [pairsD_eqv, decide_eq_true rfl]
        have hNPC := hNP.ext eC
        have hfpC := eC _ _ hfp
        have hdaC := eC _ _ (e8B _ _ hda)
        obtain ⟨dpa, dxs, edp, hdps, hdpsd⟩ := pp_inv ((e8B.trans eC).dp hdp)
        cases edp
        have hdpl : dxs.length = kk := by rw [dpAll_len hdpsd, List.length_map, hpn]
        obtain ⟨ls, nLA, hLC, hls⟩ := hNPC
        have hlsl : ls.length = kk := by rw [Paired.length hls, hpn]
        walk_at "go"
        refine lc_eachD (CopyAt K (paperN st goal kk)) copy_stays (Goes.list (.of hLC)) (by rw [List.length_map]; omega) ?_ ?_
        · rintro D j x2 H' acc hj e' nD hD hx2 R hR'
          have hx2 : (ls.map V.ref)[j]? = some x2 := hx2
          rw [List.getElem?_map] at hx2
          obtain ⟨lj, hlj, rfl⟩ := Option.map_eq_some_iff.mp hx2
          obtain ⟨rs, hrs, hnl⟩ := paired_at hls hlj
          obtain ⟨la, lxs, ela, hlas, hlad⟩ := lv_inv (PrsL.dp (K := K) (hnl.2.2.ext e').prs)
          cases ela
          refine ⟨rfl, ?_⟩
          walk_at "go"
          refine nL_intro fun cl Hc nc ec hcl2 => ?_
          exact hR' _ _ ⟨cl, lxs, _, rfl, (ne_of_none hD nc).symm, hcl2, hrs, ec.dpAll hlad⟩ ec
        intro D HD xs nD eD hxl hxc hD
        have hpD : Dp K HD (.ref D) (ppD (paperN st goal kk)) := .lst (.of hD) (copies_dp (by rw [hxl, List.length_map, hlsl, hpn]) hxc)
        clear hxc hxl
        walk_at "go"
        refine ⟨.ref hd2, st, wa, wish, (kk : Int), .ref D, by rw [hdpl]; rfl, (hprsC.ext eD).stk, by omega, .of (eD _ _ (e6C _ _ hwa6)), fun _ _ => ⟨paperN st goal kk, hpD, by omega, fun HE eE => ?_⟩, fun z => ?_⟩
        · have eE : Ex HD HE := eE
          have e1b : (decide (((paperN st goal kk).length : Int) = (kk : Int)) && paperB st (red wish.1 wish.2) (paperN st goal kk) [(1, 1)]) = true := by
            rw [hgoal, hpap, hpn, decide_eq_true rfl]
            rfl
          rw [e1b]
          have eCE : Ex HC HE := eD.trans eE
          have hfpE := eCE _ _ hfpC
          have hLE := eCE _ _ hLC
          have eAE : Ex HA HE := eAC.trans eCE
          walk_at "go"
          refine for_list (K := K) (a := L) (xs := ls.map V.ref) (fun j σ H' => ∃ y11 : Option V, σ = [some (.ref a), some (.ref h), some (.int (0 + (i : Int))), some (.ref sa), some (.ref wa), some (.ref ga), some (.ref ep), some (.ref da), some (.ref hd2), some (.int (0 + (i2 : Int))), some (.ref fp), y11] ∧ Ex HA H' ∧
              H' fp = some (.tup [x', .ref L]) ∧ H' L = some (.lst (ls.map V.ref)) ∧ ∀ l ∈ ls, l ≠ L ∧ HA l = none ∧ ∃ ys, H' l = some (.lst ys) ∧ ys.length ≤ 38416 + j)
            ⟨_, rfl, eAE, hfpE, hLE, fun l hl => ?_⟩ (fun i σ H' _ ⟨_, _, _, _, hL', _⟩ => .of hL') ?_ ?_
          · obtain ⟨j, hj⟩ := List.mem_iff_getElem?.mp hl
            obtain ⟨rs, hrs, hnl⟩ := paired_at hls hj
            obtain ⟨as, h1, h2⟩ := hnl.2.2
            refine ⟨hnl.1, hnl.2.1, _, eCE _ _ h1, ?_⟩
            rw [List.length_map, h2.len]
            exact hpm2 rs (List.mem_of_getElem? hrs)
          · rintro j x2 σ H' hj ⟨y11, rfl, e', hfp', hL', hal⟩
            rw [List.getElem?_map] at hj
            obtain ⟨lj, hlj, rfl⟩ := Option.map_eq_some_iff.mp hj
            obtain ⟨q1, q2, ys, q3, q4⟩ := hal lj (List.mem_of_getElem? hlj)
            have hjk : j < 14 := by
              have := (List.getElem?_eq_some_iff.mp hlj).1
              omega
            walk_at "go"
            refine ⟨.inl ⟨rfl, _, .of q3⟩, ?_⟩
            walk_at "go"
            refine nT_intro fun tq HF ntq eF htq => ?_
            have q3F := eF _ _ q3
            walk_at "go"
            refine ⟨lj, ys, _, rfl, rfl, q3F, by rw [sizeLine_eq]; omega, ?_⟩
            refine ⟨_, rfl, Ex.mut (e'.trans eF) q2, ?_, ?_, fun l hl => ?_⟩
            · rw [upd_ne (fun z => by rw [← z] at q3; rw [hfp'] at q3; cases q3)]
              exact eF _ _ hfp'
            · rw [upd_ne (Ne.symm q1)]
              exact eF _ _ hL'
            · obtain ⟨p1, p2, zs, p3, p4⟩ := hal l hl
              refine ⟨p1, p2, ?_⟩
              by_cases hll : l = lj
              · subst hll
                rw [q3] at p3
                cases p3
                exact ⟨_, upd_same, by rw [List.length_append, List.length_singleton]; omega⟩
              · exact ⟨zs, by rw [upd_ne hll]; exact eF _ _ p3, by omega⟩
          · rintro σ H' ⟨y11, rfl, e', hfp', hL', hal⟩
            walk_at "go"
            refine ⟨.inl ⟨rfl, _, .of hL'⟩, ?_⟩
            refine ⟨L, _, rfl, rfl, hL', ?_⟩
            exact ⟨_, _, _, rfl, eA.trans (Ex.mut e' nLA)⟩
        · rw [stockB_ok S, wishB_of.mpr G0] at z
          cases z
      · rintro σ HA ⟨y9, y10, y11, rfl, eA⟩
        exact ⟨_, _, _, _, _, _, _, _, _, _, rfl, e2.trans (e26.trans (e68.trans (e9.trans eA)))⟩
    · rintro σ H2 ⟨y2, y3, y4, y5, y6, y7, y8, y9, y10, y11, rfl, e2⟩
      walk_at "go"
      exact q _

end
end TD
namespace TD
open PySem PySem.Spec PyProof.Rows L2
theorem all_mk {l : PySem.W.OpenLaw} {w : World} {K : PySem.W.Frag} {h : Heap} {mg : Str → Option Value} {fa f_first_numbers f_fewest f__law_asked f_divisor f_is_whole f_reduced f_is_ratio f_need_stock f_need_wish f_product f_is_less f_level_behind f_shows f__law_mix f__law_next f__law_alike f__law_common f__law_reduced f__law_stock f__law_wish f__law_level f__law_levels f__law_first f_law : Addr} (X : K.In h) (G : h.Ns mainGlobals mg) (hfa : mg "law" = some (.ref fa))
    {od_first_numbers an_first_numbers : Option Addr} {sl_first_numbers : Array (Option Value)} {oc_first_numbers kV_first_numbers dc_first_numbers pm_first_numbers cd_first_numbers ct_first_numbers : Value}
    {od_fewest an_fewest : Option Addr} {sl_fewest : Array (Option Value)} {oc_fewest kV_fewest dc_fewest pm_fewest cd_fewest ct_fewest : Value}
    {od__law_asked an__law_asked : Option Addr} {sl__law_asked : Array (Option Value)} {oc__law_asked kV__law_asked dc__law_asked pm__law_asked cd__law_asked ct__law_asked : Value}
    {od_divisor an_divisor : Option Addr} {sl_divisor : Array (Option Value)} {oc_divisor kV_divisor dc_divisor pm_divisor cd_divisor ct_divisor : Value}
    {od_is_whole an_is_whole : Option Addr} {sl_is_whole : Array (Option Value)} {oc_is_whole kV_is_whole dc_is_whole pm_is_whole cd_is_whole ct_is_whole : Value}
    {od_reduced an_reduced : Option Addr} {sl_reduced : Array (Option Value)} {oc_reduced kV_reduced dc_reduced pm_reduced cd_reduced ct_reduced : Value}
    {od_is_ratio an_is_ratio : Option Addr} {sl_is_ratio : Array (Option Value)} {oc_is_ratio kV_is_ratio dc_is_ratio pm_is_ratio cd_is_ratio ct_is_ratio : Value}
    {od_need_stock an_need_stock : Option Addr} {sl_need_stock : Array (Option Value)} {oc_need_stock kV_need_stock dc_need_stock pm_need_stock cd_need_stock ct_need_stock : Value}
    {od_need_wish an_need_wish : Option Addr} {sl_need_wish : Array (Option Value)} {oc_need_wish kV_need_wish dc_need_wish pm_need_wish cd_need_wish ct_need_wish : Value}
    {od_product an_product : Option Addr} {sl_product : Array (Option Value)} {oc_product kV_product dc_product pm_product cd_product ct_product : Value}
    {od_is_less an_is_less : Option Addr} {sl_is_less : Array (Option Value)} {oc_is_less kV_is_less dc_is_less pm_is_less cd_is_less ct_is_less : Value}
    {od_level_behind an_level_behind : Option Addr} {sl_level_behind : Array (Option Value)} {oc_level_behind kV_level_behind dc_level_behind pm_level_behind cd_level_behind ct_level_behind : Value}
    {od_shows an_shows : Option Addr} {sl_shows : Array (Option Value)} {oc_shows kV_shows dc_shows pm_shows cd_shows ct_shows : Value}
    {od__law_mix an__law_mix : Option Addr} {sl__law_mix : Array (Option Value)} {oc__law_mix kV__law_mix dc__law_mix pm__law_mix cd__law_mix ct__law_mix : Value}
    {od__law_next an__law_next : Option Addr} {sl__law_next : Array (Option Value)} {oc__law_next kV__law_next dc__law_next pm__law_next cd__law_next ct__law_next : Value}
    {od__law_alike an__law_alike : Option Addr} {sl__law_alike : Array (Option Value)} {oc__law_alike kV__law_alike dc__law_alike pm__law_alike cd__law_alike ct__law_alike : Value}
    {od__law_common an__law_common : Option Addr} {sl__law_common : Array (Option Value)} {oc__law_common kV__law_common dc__law_common pm__law_common cd__law_common ct__law_common : Value}
    {od__law_reduced an__law_reduced : Option Addr} {sl__law_reduced : Array (Option Value)} {oc__law_reduced kV__law_reduced dc__law_reduced pm__law_reduced cd__law_reduced ct__law_reduced : Value}
    {od__law_stock an__law_stock : Option Addr} {sl__law_stock : Array (Option Value)} {oc__law_stock kV__law_stock dc__law_stock pm__law_stock cd__law_stock ct__law_stock : Value}
    {od__law_wish an__law_wish : Option Addr} {sl__law_wish : Array (Option Value)} {oc__law_wish kV__law_wish dc__law_wish pm__law_wish cd__law_wish ct__law_wish : Value}
    {od__law_level an__law_level : Option Addr} {sl__law_level : Array (Option Value)} {oc__law_level kV__law_level dc__law_level pm__law_level cd__law_level ct__law_level : Value}
    {od__law_levels an__law_levels : Option Addr} {sl__law_levels : Array (Option Value)} {oc__law_levels kV__law_levels dc__law_levels pm__law_levels cd__law_levels ct__law_levels : Value}
    {od__law_first an__law_first : Option Addr} {sl__law_first : Array (Option Value)} {oc__law_first kV__law_first dc__law_first pm__law_first cd__law_first ct__law_first : Value}
    {od_law an_law : Option Addr} {sl_law : Array (Option Value)} {oc_law kV_law dc_law pm_law cd_law ct_law : Value}
    (a_first_numbers : PySem.W.nsIn K mainGlobals "first_numbers" = some (some (.ref f_first_numbers))) (l_first_numbers : K.lookup f_first_numbers = some ⟨oc_first_numbers, od_first_numbers, .func (PySem.W.fnOf "first_numbers" "first_numbers" (defArgs s_first_numbers) (defBody s_first_numbers) (defScope s_first_numbers) .none kV_first_numbers dc_first_numbers pm_first_numbers an_first_numbers cd_first_numbers ct_first_numbers), sl_first_numbers⟩) (e_first_numbers : PySem.W.codeIn K cd_first_numbers "first_numbers" = true) (k_first_numbers : PySem.W.keepIn K (.ref f_first_numbers) = true)
    (a_fewest : PySem.W.nsIn K mainGlobals "fewest" = some (some (.ref f_fewest))) (l_fewest : K.lookup f_fewest = some ⟨oc_fewest, od_fewest, .func (PySem.W.fnOf "fewest" "fewest" (defArgs s_fewest) (defBody s_fewest) (defScope s_fewest) .none kV_fewest dc_fewest pm_fewest an_fewest cd_fewest ct_fewest), sl_fewest⟩) (e_fewest : PySem.W.codeIn K cd_fewest "fewest" = true) (k_fewest : PySem.W.keepIn K (.ref f_fewest) = true)
    (a__law_asked : PySem.W.nsIn K mainGlobals "_law_asked" = some (some (.ref f__law_asked))) (l__law_asked : K.lookup f__law_asked = some ⟨oc__law_asked, od__law_asked, .func (PySem.W.fnOf "_law_asked" "_law_asked" (defArgs s__law_asked) (defBody s__law_asked) (defScope s__law_asked) .none kV__law_asked dc__law_asked pm__law_asked an__law_asked cd__law_asked ct__law_asked), sl__law_asked⟩) (e__law_asked : PySem.W.codeIn K cd__law_asked "_law_asked" = true) (k__law_asked : PySem.W.keepIn K (.ref f__law_asked) = true)
    (a_divisor : PySem.W.nsIn K mainGlobals "divisor" = some (some (.ref f_divisor))) (l_divisor : K.lookup f_divisor = some ⟨oc_divisor, od_divisor, .func (PySem.W.fnOf "divisor" "divisor" (defArgs s_divisor) (defBody s_divisor) (defScope s_divisor) .none kV_divisor dc_divisor pm_divisor an_divisor cd_divisor ct_divisor), sl_divisor⟩) (e_divisor : PySem.W.codeIn K cd_divisor "divisor" = true) (k_divisor : PySem.W.keepIn K (.ref f_divisor) = true)
    (a_is_whole : PySem.W.nsIn K mainGlobals "is_whole" = some (some (.ref f_is_whole))) (l_is_whole : K.lookup f_is_whole = some ⟨oc_is_whole, od_is_whole, .func (PySem.W.fnOf "is_whole" "is_whole" (defArgs s_is_whole) (defBody s_is_whole) (defScope s_is_whole) .none kV_is_whole dc_is_whole pm_is_whole an_is_whole cd_is_whole ct_is_whole), sl_is_whole⟩) (e_is_whole : PySem.W.codeIn K cd_is_whole "is_whole" = true) (k_is_whole : PySem.W.keepIn K (.ref f_is_whole) = true)
    (a_reduced : PySem.W.nsIn K mainGlobals "reduced" = some (some (.ref f_reduced))) (l_reduced : K.lookup f_reduced = some ⟨oc_reduced, od_reduced, .func (PySem.W.fnOf "reduced" "reduced" (defArgs s_reduced) (defBody s_reduced) (defScope s_reduced) .none kV_reduced dc_reduced pm_reduced an_reduced cd_reduced ct_reduced), sl_reduced⟩) (e_reduced : PySem.W.codeIn K cd_reduced "reduced" = true) (k_reduced : PySem.W.keepIn K (.ref f_reduced) = true)
    (a_is_ratio : PySem.W.nsIn K mainGlobals "is_ratio" = some (some (.ref f_is_ratio))) (l_is_ratio : K.lookup f_is_ratio = some ⟨oc_is_ratio, od_is_ratio, .func (PySem.W.fnOf "is_ratio" "is_ratio" (defArgs s_is_ratio) (defBody s_is_ratio) (defScope s_is_ratio) .none kV_is_ratio dc_is_ratio pm_is_ratio an_is_ratio cd_is_ratio ct_is_ratio), sl_is_ratio⟩) (e_is_ratio : PySem.W.codeIn K cd_is_ratio "is_ratio" = true) (k_is_ratio : PySem.W.keepIn K (.ref f_is_ratio) = true)
    (a_need_stock : PySem.W.nsIn K mainGlobals "need_stock" = some (some (.ref f_need_stock))) (l_need_stock : K.lookup f_need_stock = some ⟨oc_need_stock, od_need_stock, .func (PySem.W.fnOf "need_stock" "need_stock" (defArgs s_need_stock) (defBody s_need_stock) (defScope s_need_stock) .none kV_need_stock dc_need_stock pm_need_stock an_need_stock cd_need_stock ct_need_stock), sl_need_stock⟩) (e_need_stock : PySem.W.codeIn K cd_need_stock "need_stock" = true) (k_need_stock : PySem.W.keepIn K (.ref f_need_stock) = true)
    (a_need_wish : PySem.W.nsIn K mainGlobals "need_wish" = some (some (.ref f_need_wish))) (l_need_wish : K.lookup f_need_wish = some ⟨oc_need_wish, od_need_wish, .func (PySem.W.fnOf "need_wish" "need_wish" (defArgs s_need_wish) (defBody s_need_wish) (defScope s_need_wish) .none kV_need_wish dc_need_wish pm_need_wish an_need_wish cd_need_wish ct_need_wish), sl_need_wish⟩) (e_need_wish : PySem.W.codeIn K cd_need_wish "need_wish" = true) (k_need_wish : PySem.W.keepIn K (.ref f_need_wish) = true)
    (a_product : PySem.W.nsIn K mainGlobals "product" = some (some (.ref f_product))) (l_product : K.lookup f_product = some ⟨oc_product, od_product, .func (PySem.W.fnOf "product" "product" (defArgs s_product) (defBody s_product) (defScope s_product) .none kV_product dc_product pm_product an_product cd_product ct_product), sl_product⟩) (e_product : PySem.W.codeIn K cd_product "product" = true) (k_product : PySem.W.keepIn K (.ref f_product) = true)
    (a_is_less : PySem.W.nsIn K mainGlobals "is_less" = some (some (.ref f_is_less))) (l_is_less : K.lookup f_is_less = some ⟨oc_is_less, od_is_less, .func (PySem.W.fnOf "is_less" "is_less" (defArgs s_is_less) (defBody s_is_less) (defScope s_is_less) .none kV_is_less dc_is_less pm_is_less an_is_less cd_is_less ct_is_less), sl_is_less⟩) (e_is_less : PySem.W.codeIn K cd_is_less "is_less" = true) (k_is_less : PySem.W.keepIn K (.ref f_is_less) = true)
    (a_level_behind : PySem.W.nsIn K mainGlobals "level_behind" = some (some (.ref f_level_behind))) (l_level_behind : K.lookup f_level_behind = some ⟨oc_level_behind, od_level_behind, .func (PySem.W.fnOf "level_behind" "level_behind" (defArgs s_level_behind) (defBody s_level_behind) (defScope s_level_behind) .none kV_level_behind dc_level_behind pm_level_behind an_level_behind cd_level_behind ct_level_behind), sl_level_behind⟩) (e_level_behind : PySem.W.codeIn K cd_level_behind "level_behind" = true) (k_level_behind : PySem.W.keepIn K (.ref f_level_behind) = true)
    (a_shows : PySem.W.nsIn K mainGlobals "shows" = some (some (.ref f_shows))) (l_shows : K.lookup f_shows = some ⟨oc_shows, od_shows, .func (PySem.W.fnOf "shows" "shows" (defArgs s_shows) (defBody s_shows) (defScope s_shows) .none kV_shows dc_shows pm_shows an_shows cd_shows ct_shows), sl_shows⟩) (e_shows : PySem.W.codeIn K cd_shows "shows" = true) (k_shows : PySem.W.keepIn K (.ref f_shows) = true)
    (a__law_mix : PySem.W.nsIn K mainGlobals "_law_mix" = some (some (.ref f__law_mix))) (l__law_mix : K.lookup f__law_mix = some ⟨oc__law_mix, od__law_mix, .func (PySem.W.fnOf "_law_mix" "_law_mix" (defArgs s__law_mix) (defBody s__law_mix) (defScope s__law_mix) .none kV__law_mix dc__law_mix pm__law_mix an__law_mix cd__law_mix ct__law_mix), sl__law_mix⟩) (e__law_mix : PySem.W.codeIn K cd__law_mix "_law_mix" = true) (k__law_mix : PySem.W.keepIn K (.ref f__law_mix) = true)
    (a__law_next : PySem.W.nsIn K mainGlobals "_law_next" = some (some (.ref f__law_next))) (l__law_next : K.lookup f__law_next = some ⟨oc__law_next, od__law_next, .func (PySem.W.fnOf "_law_next" "_law_next" (defArgs s__law_next) (defBody s__law_next) (defScope s__law_next) .none kV__law_next dc__law_next pm__law_next an__law_next cd__law_next ct__law_next), sl__law_next⟩) (e__law_next : PySem.W.codeIn K cd__law_next "_law_next" = true) (k__law_next : PySem.W.keepIn K (.ref f__law_next) = true)
    (a__law_alike : PySem.W.nsIn K mainGlobals "_law_alike" = some (some (.ref f__law_alike))) (l__law_alike : K.lookup f__law_alike = some ⟨oc__law_alike, od__law_alike, .func (PySem.W.fnOf "_law_alike" "_law_alike" (defArgs s__law_alike) (defBody s__law_alike) (defScope s__law_alike) .none kV__law_alike dc__law_alike pm__law_alike an__law_alike cd__law_alike ct__law_alike), sl__law_alike⟩) (e__law_alike : PySem.W.codeIn K cd__law_alike "_law_alike" = true) (k__law_alike : PySem.W.keepIn K (.ref f__law_alike) = true)
    (a__law_common : PySem.W.nsIn K mainGlobals "_law_common" = some (some (.ref f__law_common))) (l__law_common : K.lookup f__law_common = some ⟨oc__law_common, od__law_common, .func (PySem.W.fnOf "_law_common" "_law_common" (defArgs s__law_common) (defBody s__law_common) (defScope s__law_common) .none kV__law_common dc__law_common pm__law_common an__law_common cd__law_common ct__law_common), sl__law_common⟩) (e__law_common : PySem.W.codeIn K cd__law_common "_law_common" = true) (k__law_common : PySem.W.keepIn K (.ref f__law_common) = true)
    (a__law_reduced : PySem.W.nsIn K mainGlobals "_law_reduced" = some (some (.ref f__law_reduced))) (l__law_reduced : K.lookup f__law_reduced = some ⟨oc__law_reduced, od__law_reduced, .func (PySem.W.fnOf "_law_reduced" "_law_reduced" (defArgs s__law_reduced) (defBody s__law_reduced) (defScope s__law_reduced) .none kV__law_reduced dc__law_reduced pm__law_reduced an__law_reduced cd__law_reduced ct__law_reduced), sl__law_reduced⟩) (e__law_reduced : PySem.W.codeIn K cd__law_reduced "_law_reduced" = true) (k__law_reduced : PySem.W.keepIn K (.ref f__law_reduced) = true)
    (a__law_stock : PySem.W.nsIn K mainGlobals "_law_stock" = some (some (.ref f__law_stock))) (l__law_stock : K.lookup f__law_stock = some ⟨oc__law_stock, od__law_stock, .func (PySem.W.fnOf "_law_stock" "_law_stock" (defArgs s__law_stock) (defBody s__law_stock) (defScope s__law_stock) .none kV__law_stock dc__law_stock pm__law_stock an__law_stock cd__law_stock ct__law_stock), sl__law_stock⟩) (e__law_stock : PySem.W.codeIn K cd__law_stock "_law_stock" = true) (k__law_stock : PySem.W.keepIn K (.ref f__law_stock) = true)
    (a__law_wish : PySem.W.nsIn K mainGlobals "_law_wish" = some (some (.ref f__law_wish))) (l__law_wish : K.lookup f__law_wish = some ⟨oc__law_wish, od__law_wish, .func (PySem.W.fnOf "_law_wish" "_law_wish" (defArgs s__law_wish) (defBody s__law_wish) (defScope s__law_wish) .none kV__law_wish dc__law_wish pm__law_wish an__law_wish cd__law_wish ct__law_wish), sl__law_wish⟩) (e__law_wish : PySem.W.codeIn K cd__law_wish "_law_wish" = true) (k__law_wish : PySem.W.keepIn K (.ref f__law_wish) = true)
    (a__law_level : PySem.W.nsIn K mainGlobals "_law_level" = some (some (.ref f__law_level))) (l__law_level : K.lookup f__law_level = some ⟨oc__law_level, od__law_level, .func (PySem.W.fnOf "_law_level" "_law_level" (defArgs s__law_level) (defBody s__law_level) (defScope s__law_level) .none kV__law_level dc__law_level pm__law_level an__law_level cd__law_level ct__law_level), sl__law_level⟩) (e__law_level : PySem.W.codeIn K cd__law_level "_law_level" = true) (k__law_level : PySem.W.keepIn K (.ref f__law_level) = true)
    (a__law_levels : PySem.W.nsIn K mainGlobals "_law_levels" = some (some (.ref f__law_levels))) (l__law_levels : K.lookup f__law_levels = some ⟨oc__law_levels, od__law_levels, .func (PySem.W.fnOf "_law_levels" "_law_levels" (defArgs s__law_levels) (defBody s__law_levels) (defScope s__law_levels) .none kV__law_levels dc__law_levels pm__law_levels an__law_levels cd__law_levels ct__law_levels), sl__law_levels⟩) (e__law_levels : PySem.W.codeIn K cd__law_levels "_law_levels" = true) (k__law_levels : PySem.W.keepIn K (.ref f__law_levels) = true)
    (a__law_first : PySem.W.nsIn K mainGlobals "_law_first" = some (some (.ref f__law_first))) (l__law_first : K.lookup f__law_first = some ⟨oc__law_first, od__law_first, .func (PySem.W.fnOf "_law_first" "_law_first" (defArgs s__law_first) (defBody s__law_first) (defScope s__law_first) .none kV__law_first dc__law_first pm__law_first an__law_first cd__law_first ct__law_first), sl__law_first⟩) (e__law_first : PySem.W.codeIn K cd__law_first "_law_first" = true) (k__law_first : PySem.W.keepIn K (.ref f__law_first) = true)
    (a_law : PySem.W.nsIn K mainGlobals "law" = some (some (.ref f_law))) (l_law : K.lookup f_law = some ⟨oc_law, od_law, .func (PySem.W.fnOf "law" "law" (defArgs s_law) (defBody s_law) (defScope s_law) .none kV_law dc_law pm_law an_law cd_law ct_law), sl_law⟩) (e_law : PySem.W.codeIn K cd_law "law" = true) (k_law : PySem.W.keepIn K (.ref f_law) = true)
    {t_MOST_RATIOS : Tok} (g_MOST_RATIOS : PySem.W.nsIn K mainGlobals "MOST_RATIOS" = some (some (.int 5 t_MOST_RATIOS)))
    {t_MOST_BOTTOM : Tok} (g_MOST_BOTTOM : PySem.W.nsIn K mainGlobals "MOST_BOTTOM" = some (some (.int 12 t_MOST_BOTTOM)))
    {t_MOST_WISHED : Tok} (g_MOST_WISHED : PySem.W.nsIn K mainGlobals "MOST_WISHED" = some (some (.int 5000 t_MOST_WISHED)))
    {C_BadStock : Addr} (xg_BadStock : PySem.W.nsIn K mainGlobals "BadStock" = some (some (.ref C_BadStock))) (xq_BadStock : PySem.W.excIn K C_BadStock [.type "ValueError", .type "Exception", .type "BaseException", .type "object"] "ValueError.__new__" = true) (xk_BadStock : PySem.W.keepIn K (.ref C_BadStock) = true) (xs_BadStock : PySem.W.subIn K (.ref C_BadStock) (.type "BaseException") = some true) (xt_BadStock : PySem.W.typeIn K (.ref C_BadStock) = some (.type "type"))
    (z_len : PySem.W.nsIn K mainGlobals "len" = some none)
    (z_range : PySem.W.nsIn K mainGlobals "range" = some none)
    (z_list : PySem.W.nsIn K mainGlobals "list" = some none)
    (z_sum : PySem.W.nsIn K mainGlobals "sum" = some none)
    (z_zip : PySem.W.nsIn K mainGlobals "zip" = some none)
    (z_max : PySem.W.nsIn K mainGlobals "max" = some none)
    (z_min : PySem.W.nsIn K mainGlobals "min" = some none)
    (z_sorted : PySem.W.nsIn K mainGlobals "sorted" = some none)
    (z_set : PySem.W.nsIn K mainGlobals "set" = some none)
    (z_dict : PySem.W.nsIn K mainGlobals "dict" = some none)
    (z_enumerate : PySem.W.nsIn K mainGlobals "enumerate" = some none)
    (z_divmod : PySem.W.nsIn K mainGlobals "divmod" = some none)
    (z_isinstance : PySem.W.nsIn K mainGlobals "isinstance" = some none)
    (z_int : PySem.W.nsIn K mainGlobals "int" = some none)
    (z_str : PySem.W.nsIn K mainGlobals "str" = some none)
    (z_bool : PySem.W.nsIn K mainGlobals "bool" = some none)
    (z_tuple : PySem.W.nsIn K mainGlobals "tuple" = some none)
    (z_VE : PySem.W.nsIn K mainGlobals "ValueError" = some none)
    {C_BeatError : Addr} (y_BeatError : PySem.W.nsIn K mainGlobals "BeatError" = some (some (.ref C_BeatError)))
    {C_NoBeat : Addr} (y_NoBeat : PySem.W.nsIn K mainGlobals "NoBeat" = some (some (.ref C_NoBeat)))
    {C_TooLong : Addr} (y_TooLong : PySem.W.nsIn K mainGlobals "TooLong" = some (some (.ref C_TooLong)))
    {C_Ends : Addr} (y_Ends : PySem.W.nsIn K mainGlobals "Ends" = some (some (.ref C_Ends)))
    {C_NoWish : Addr} (y_NoWish : PySem.W.nsIn K mainGlobals "NoWish" = some (some (.ref C_NoWish)))
    {C_NoNote : Addr} (y_NoNote : PySem.W.nsIn K mainGlobals "NoNote" = some (some (.ref C_NoNote)))
    (e1_BE : PySem.W.subIn K (.ref C_BeatError) (.type "BaseException") = some true) (e2_BE : PySem.W.hasDictIn K C_BeatError = true) (e3_BE : PySem.W.typeIn K (.ref C_BeatError) = some (.type "type"))
    (hg_NoWish : PySem.W.findIn K (.ref C_NoWish) "__getattribute__" = some (some (.builtin "BaseException.__getattribute__")))
    (hk_NoWish : PySem.W.findIn K (.ref C_NoWish) "__getattr__" = some none)
    (hs_NoWish : PySem.W.subIn K (.ref C_NoWish) (.type "BaseException") = some true)
    (hd_NoWish : PySem.W.hasDictIn K C_NoWish = true)
    (ha_NoWish : PySem.W.findIn K (.ref C_NoWish) "__class__" = some (some (.builtin "object.__class__")))
    (hm_NoWish : PySem.W.mroIn K C_NoWish (.type "object") = some true)
    (hb_NoWish : PySem.W.subIn K (.ref C_NoWish) (.ref C_BeatError) = some true)
    (i0_NoWish : PySem.W.kitOne K (.ref C_NoWish) (.ref C_NoBeat) = some false)
    (i1_NoWish : PySem.W.kitOne K (.ref C_NoWish) (.ref C_TooLong) = some false)
    (i2_NoWish : PySem.W.kitOne K (.ref C_NoWish) (.ref C_Ends) = some false)
    (i3_NoWish : PySem.W.kitOne K (.ref C_NoWish) (.ref C_BadStock) = some false)
    (i4_NoWish : PySem.W.kitOne K (.ref C_NoWish) (.ref C_NoWish) = some true)
    (i5_NoWish : PySem.W.kitOne K (.ref C_NoWish) (.ref C_NoNote) = some false)
    (iv_NoWish : PySem.W.kitOne K (.ref C_NoWish) (.type "ValueError") = some true)
    (hn_oc : PySem.W.specialIn K (.builtin "object.__class__") "__get__" = some (some (.builtin "getset_descriptor.__get__"))) (ht_oc : PySem.W.takesIn K (.builtin "object.__class__") = some true)
    {nm_w q_w : Str} {N_w : Addr} {bs_w : List Value} {sn_w : List Str} {sub_w : List Value} {ab_w : Bool} {col_w : Option Bool} {dd_w : Option Addr} {k0_w k1_w k2_w k3_w k5_w : Option Value} (w_l : K.lookup C_NoWish = some (excClassObj nm_w q_w C_NoWish N_w bs_w [.ref C_BeatError, .type "ValueError", .type "Exception", .type "BaseException", .type "object"] true sn_w sub_w ab_w col_w dd_w k0_w k1_w k2_w k3_w k5_w "ValueError.__new__"))
    (w_sa : PySem.W.findIn K (.ref C_NoWish) "__setattr__" = some (some (.builtin "object.__setattr__"))) (w_ex : PySem.W.subIn K (.ref C_NoWish) (.type "BaseException") = some true) (w_ty : PySem.W.typeIn K (.ref C_NoWish) = some (.type "type")) (w_k : PySem.W.keepIn K (.ref C_NoWish) = true)
    {f_nwi : Addr} (w_i : PySem.W.findIn K (.ref C_NoWish) "__init__" = some (some (.ref f_nwi))) (w_it : PySem.W.typeIn K (.ref f_nwi) = some (.type "function")) (w_no : PySem.W.findIn K (.ref C_NoWish) "paper" = some none)
    {od_nwi an_nwi : Option Addr} {sl_nwi : Array (Option Value)} {oc_nwi kV_nwi dc_nwi pm_nwi cd_nwi ct_nwi : Value} (l_nwi : K.lookup f_nwi = some ⟨oc_nwi, od_nwi, .func (PySem.W.fnOf "__init__" "NoWish.__init__" (defArgs s_NoWish___init__) (defBody s_NoWish___init__) (defScope s_NoWish___init__) .none kV_nwi dc_nwi pm_nwi an_nwi cd_nwi ct_nwi), sl_nwi⟩) (e_nwi : PySem.W.codeIn K cd_nwi "NoWish.__init__" = true) (k_nwi : PySem.W.keepIn K (.ref f_nwi) = true)
    (b_rd : PySem.W.readsIn K C_BeatError (.type "type") = true) (b_ga : PySem.W.specialIn K (.ref C_BeatError) "__getattribute__" = some (some (.builtin "type.__getattribute__"))) (b_at : PySem.W.findCls K (.ref C_BeatError) (.type "type") "__init__" = some (.val (.builtin "ValueError.__init__")))
    : ∃ fd : FuncData, (∀ (s : Shared) (v : Value), BindsTo s fd ⟨[v], []⟩ [("_law_script", v)]) ∧ ∀ base : Heap, K.In base → base.Ns mainGlobals mg → FnOk l.prog w K mg base CX0 100 fa fd ["_law_script"] (spLaw K) := by
  have e := hfa.symm.trans (PySem.W.mg_of X G a_law)
  cases e
  have m_first_numbers := PySem.W.mg_of X G a_first_numbers
  have F_first_numbers := fun_mk (st := s_first_numbers) l_first_numbers e_first_numbers k_first_numbers
  have b_first_numbers := F_first_numbers.binds (ps := ["stock", "goal", "many", "begin", "ahead"]) fun _ _ _ _ _ _ us hl => match us, hl with | [_, _, _, _, _], _ => rfl
  have m_fewest := PySem.W.mg_of X G a_fewest
  have F_fewest := fun_mk (st := s_fewest) l_fewest e_fewest k_fewest
  have b_fewest := F_fewest.binds (ps := ["stock", "wish"]) fun _ _ _ _ _ _ us hl => match us, hl with | [_, _], _ => rfl
  have m__law_asked := PySem.W.mg_of X G a__law_asked
  have F__law_asked := fun_mk (st := s__law_asked) l__law_asked e__law_asked k__law_asked
  have b__law_asked := F__law_asked.binds (ps := ["_law_stock_here", "_law_wish_here"]) fun _ _ _ _ _ _ us hl => match us, hl with | [_, _], _ => rfl
  have m_divisor := PySem.W.mg_of X G a_divisor
  have F_divisor := fun_mk (st := s_divisor) l_divisor e_divisor k_divisor
  have b_divisor := F_divisor.binds (ps := ["one", "other"]) fun _ _ _ _ _ _ us hl => match us, hl with | [_, _], _ => rfl
  have m_is_whole := PySem.W.mg_of X G a_is_whole
  have F_is_whole := fun_mk (st := s_is_whole) l_is_whole e_is_whole k_is_whole
  have b_is_whole := F_is_whole.binds (ps := ["thing", "least", "most"]) fun _ _ _ _ _ _ us hl => match us, hl with | [_, _, _], _ => rfl
  have m_reduced := PySem.W.mg_of X G a_reduced
  have F_reduced := fun_mk (st := s_reduced) l_reduced e_reduced k_reduced
  have b_reduced := F_reduced.binds (ps := ["top", "bottom"]) fun _ _ _ _ _ _ us hl => match us, hl with | [_, _], _ => rfl
  have m_is_ratio := PySem.W.mg_of X G a_is_ratio
  have F_is_ratio := fun_mk (st := s_is_ratio) l_is_ratio e_is_ratio k_is_ratio
  have b_is_ratio := F_is_ratio.binds (ps := ["ratio"]) fun _ _ _ _ _ _ us hl => match us, hl with | [_], _ => rfl
  have m_need_stock := PySem.W.mg_of X G a_need_stock
  have F_need_stock := fun_mk (st := s_need_stock) l_need_stock e_need_stock k_need_stock
  have b_need_stock := F_need_stock.binds (ps := ["stock"]) fun _ _ _ _ _ _ us hl => match us, hl with | [_], _ => rfl
  have m_need_wish := PySem.W.mg_of X G a_need_wish
  have F_need_wish := fun_mk (st := s_need_wish) l_need_wish e_need_wish k_need_wish
  have b_need_wish := F_need_wish.binds (ps := ["wish"]) fun _ _ _ _ _ _ us hl => match us, hl with | [_], _ => rfl
  have m_product := PySem.W.mg_of X G a_product
  have F_product := fun_mk (st := s_product) l_product e_product k_product
  have b_product := F_product.binds (ps := ["one", "other"]) fun _ _ _ _ _ _ us hl => match us, hl with | [_, _], _ => rfl
  have m_is_less := PySem.W.mg_of X G a_is_less
  have F_is_less := fun_mk (st := s_is_less) l_is_less e_is_less k_is_less
  have b_is_less := F_is_less.binds (ps := ["one", "other"]) fun _ _ _ _ _ _ us hl => match us, hl with | [_, _], _ => rfl
  have m_level_behind := PySem.W.mg_of X G a_level_behind
  have F_level_behind := fun_mk (st := s_level_behind) l_level_behind e_level_behind k_level_behind
  have b_level_behind := F_level_behind.binds (ps := ["stock", "level", "goal"]) fun _ _ _ _ _ _ us hl => match us, hl with | [_, _, _], _ => rfl
  have m_shows := PySem.W.mg_of X G a_shows
  have F_shows := fun_mk (st := s_shows) l_shows e_shows k_shows
  have b_shows := F_shows.binds (ps := ["stock", "wish", "many", "paper"]) fun _ _ _ _ _ _ us hl => match us, hl with | [_, _, _, _], _ => rfl
  have m__law_mix := PySem.W.mg_of X G a__law_mix
  have F__law_mix := fun_mk (st := s__law_mix) l__law_mix e__law_mix k__law_mix
  have b__law_mix := F__law_mix.binds (ps := ["_law_script", "_law_seed"]) fun _ _ _ _ _ _ us hl => match us, hl with | [_, _], _ => rfl
  have m__law_next := PySem.W.mg_of X G a__law_next
  have F__law_next := fun_mk (st := s__law_next) l__law_next e__law_next k__law_next
  have b__law_next := F__law_next.binds (ps := ["_law_h", "_law_many"]) fun _ _ _ _ _ _ us hl => match us, hl with | [_, _], _ => rfl
  have m__law_alike := PySem.W.mg_of X G a__law_alike
  have F__law_alike := fun_mk (st := s__law_alike) l__law_alike e__law_alike k__law_alike
  have b__law_alike := F__law_alike.binds (ps := ["_law_found", "_law_due"]) fun _ _ _ _ _ _ us hl => match us, hl with | [_, _], _ => rfl
  have m__law_common := PySem.W.mg_of X G a__law_common
  have F__law_common := fun_mk (st := s__law_common) l__law_common e__law_common k__law_common
  have b__law_common := F__law_common.binds (ps := ["_law_one", "_law_other"]) fun _ _ _ _ _ _ us hl => match us, hl with | [_, _], _ => rfl
  have m__law_reduced := PySem.W.mg_of X G a__law_reduced
  have F__law_reduced := fun_mk (st := s__law_reduced) l__law_reduced e__law_reduced k__law_reduced
  have b__law_reduced := F__law_reduced.binds (ps := ["_law_top", "_law_bottom"]) fun _ _ _ _ _ _ us hl => match us, hl with | [_, _], _ => rfl
  have m__law_stock := PySem.W.mg_of X G a__law_stock
  have F__law_stock := fun_mk (st := s__law_stock) l__law_stock e__law_stock k__law_stock
  have b__law_stock := F__law_stock.binds (ps := ["_law_h"]) fun _ _ _ _ _ _ us hl => match us, hl with | [_], _ => rfl
  have m__law_wish := PySem.W.mg_of X G a__law_wish
  have F__law_wish := fun_mk (st := s__law_wish) l__law_wish e__law_wish k__law_wish
  have b__law_wish := F__law_wish.binds (ps := ["_law_h", "_law_stock_here"]) fun _ _ _ _ _ _ us hl => match us, hl with | [_, _], _ => rfl
  have m__law_level := PySem.W.mg_of X G a__law_level
  have F__law_level := fun_mk (st := s__law_level) l__law_level e__law_level k__law_level
  have b__law_level := F__law_level.binds (ps := ["_law_stock_here", "_law_level_here", "_law_goal"]) fun _ _ _ _ _ _ us hl => match us, hl with | [_, _, _], _ => rfl
  have m__law_levels := PySem.W.mg_of X G a__law_levels
  have F__law_levels := fun_mk (st := s__law_levels) l__law_levels e__law_levels k__law_levels
  have b__law_levels := F__law_levels.binds (ps := ["_law_stock_here", "_law_goal"]) fun _ _ _ _ _ _ us hl => match us, hl with | [_, _], _ => rfl
  have m__law_first := PySem.W.mg_of X G a__law_first
  have F__law_first := fun_mk (st := s__law_first) l__law_first e__law_first k__law_first
  have b__law_first := F__law_first.binds (ps := ["_law_stock_here", "_law_goal", "_law_count"]) fun _ _ _ _ _ _ us hl => match us, hl with | [_, _, _], _ => rfl
  have m_law := PySem.W.mg_of X G a_law
  have F_law := fun_mk (st := s_law) l_law e_law k_law
  have b_law := F_law.binds (ps := ["_law_script"]) fun _ _ _ _ _ _ us hl => match us, hl with | [_], _ => rfl
  have B : Blt mg := ⟨PySem.W.mg_none_of X G z_len, PySem.W.mg_none_of X G z_range, PySem.W.mg_none_of X G z_list, PySem.W.mg_none_of X G z_sum, PySem.W.mg_none_of X G z_zip, PySem.W.mg_none_of X G z_max, PySem.W.mg_none_of X G z_min, PySem.W.mg_none_of X G z_sorted, PySem.W.mg_none_of X G z_set, PySem.W.mg_none_of X G z_dict, PySem.W.mg_none_of X G z_enumerate, PySem.W.mg_none_of X G z_divmod, PySem.W.mg_none_of X G z_isinstance, PySem.W.mg_none_of X G z_int, PySem.W.mg_none_of X G z_str, PySem.W.mg_none_of X G z_bool, PySem.W.mg_none_of X G z_tuple⟩
  have g_MOST_RATIOS : ∃ u, mg "MOST_RATIOS" = some u ∧ RelV (.int 5) u := ⟨_, PySem.W.mg_of X G g_MOST_RATIOS, _, rfl⟩
  have g_MOST_BOTTOM : ∃ u, mg "MOST_BOTTOM" = some u ∧ RelV (.int 12) u := ⟨_, PySem.W.mg_of X G g_MOST_BOTTOM, _, rfl⟩
  have g_MOST_WISHED : ∃ u, mg "MOST_WISHED" = some u ∧ RelV (.int 5000) u := ⟨_, PySem.W.mg_of X G g_MOST_WISHED, _, rfl⟩
  have T_BadStock : ExC K mg "BadStock" C_BadStock := ⟨PySem.W.mg_of X G xg_BadStock, xq_BadStock, xk_BadStock, xs_BadStock, xt_BadStock⟩
  have m_VE : mg "ValueError" = none := PySem.W.mg_none_of X G z_VE
  have m_BeatError : mg "BeatError" = some (.ref C_BeatError) := PySem.W.mg_of X G y_BeatError
  have m_NoBeat : mg "NoBeat" = some (.ref C_NoBeat) := PySem.W.mg_of X G y_NoBeat
  have m_TooLong : mg "TooLong" = some (.ref C_TooLong) := PySem.W.mg_of X G y_TooLong
  have m_Ends : mg "Ends" = some (.ref C_Ends) := PySem.W.mg_of X G y_Ends
  have m_BadStock : mg "BadStock" = some (.ref C_BadStock) := PySem.W.mg_of X G xg_BadStock
  have m_NoWish : mg "NoWish" = some (.ref C_NoWish) := PySem.W.mg_of X G y_NoWish
  have m_NoNote : mg "NoNote" = some (.ref C_NoNote) := PySem.W.mg_of X G y_NoNote
  have KC : KindCs mg C_BeatError C_NoBeat C_TooLong C_Ends C_BadStock C_NoWish C_NoNote := ⟨m_VE, m_BeatError, ⟨_, m_NoBeat, rfl⟩, ⟨_, m_TooLong, rfl⟩, ⟨_, m_Ends, rfl⟩, ⟨_, m_BadStock, rfl⟩, ⟨_, m_NoWish, rfl⟩, ⟨_, m_NoNote, rfl⟩⟩
  have KA_NoWish : KindAt K C_BeatError C_NoBeat C_TooLong C_Ends C_BadStock C_NoWish C_NoNote C_NoWish 4 := ⟨⟨hg_NoWish, hk_NoWish, hs_NoWish, hd_NoWish, ha_NoWish, hn_oc, ht_oc, hm_NoWish⟩, PySem.W.exm_ref e1_BE e2_BE e3_BE hb_NoWish, i0_NoWish, i1_NoWish, i2_NoWish, i3_NoWish, i4_NoWish, i5_NoWish, iv_NoWish⟩
  have TI : InitC K C_BeatError := ⟨b_rd, b_ga, b_at⟩
  have TW : L2.OexC K C_NoWish := ⟨⟨_, _, _, _, _, _, _, _, _, _, _, _, _, _, _, w_l, rfl⟩, w_sa, w_ex, w_ty, w_k⟩
  have F_nwi := fun_mk (st := s_NoWish___init__) l_nwi e_nwi k_nwi
  have b_nwi := F_nwi.binds (ps := ["self", "paper"]) fun _ _ _ _ _ _ us hl => match us, hl with | [_, _], _ => rfl
  refine ⟨PySem.W.fnOf "law" "law" (defArgs s_law) (defBody s_law) (defScope s_law) .none kV_law dc_law pm_law an_law cd_law ct_law, fun s v => .of_eq rfl, fun base _ _ => ?_⟩
  have c_divisor := Dn.of0 (P := l.prog) (w := w) (base := base) (ok_divisor F_divisor) m_divisor k_divisor b_divisor
  have c_is_whole := Dn.of0 (P := l.prog) (w := w) (base := base) (ok_is_whole F_is_whole B) m_is_whole k_is_whole b_is_whole
  have c_reduced := Dn.of0 (P := l.prog) (w := w) (base := base) (ok_reduced F_reduced c_divisor) m_reduced k_reduced b_reduced
  have c_is_ratio := Dn.of0 (P := l.prog) (w := w) (base := base) (ok_is_ratio F_is_ratio g_MOST_BOTTOM c_is_whole) m_is_ratio k_is_ratio b_is_ratio
  have c_need_stock := Dn.of (P := l.prog) (w := w) (base := base) (ok_need_stock F_need_stock B T_BadStock g_MOST_RATIOS c_is_ratio) m_need_stock k_need_stock b_need_stock
  have c_need_wish := Dn.of (P := l.prog) (w := w) (base := base) (ok_need_wish F_need_wish T_BadStock g_MOST_WISHED c_is_whole) m_need_wish k_need_wish b_need_wish
  have c_product := Dn.of0 (P := l.prog) (w := w) (base := base) (ok_product F_product c_reduced) m_product k_product b_product
  have c_is_less := Dn.of0 (P := l.prog) (w := w) (base := base) (ok_is_less F_is_less) m_is_less k_is_less b_is_less
  have c_level_behind := Dn.of0 (P := l.prog) (w := w) (base := base) (ok_level_behind F_level_behind B c_product c_is_less) m_level_behind k_level_behind b_level_behind
  have c_first_numbers := Dn.of0 (P := l.prog) (w := w) (base := base) (ok_firsts F_first_numbers B c_product c_is_less m_first_numbers k_first_numbers b_first_numbers 20) m_first_numbers k_first_numbers b_first_numbers
  have NW : NwC l.prog w K mg base C_NoWish := ⟨TW, m_NoWish, _, _, w_i, w_it, ok_nwInit F_nwi m_BeatError TI TW w_no, b_nwi⟩
  have c_fewest := Dn.of (P := l.prog) (w := w) (base := base) (ok_fewest F_fewest B NW c_need_stock c_need_wish c_reduced c_level_behind c_first_numbers) m_fewest k_fewest b_fewest
  have c_shows := Dn.of (P := l.prog) (w := w) (base := base) (ok_shows F_shows B c_need_stock c_need_wish c_reduced c_level_behind) m_shows k_shows b_shows
  have c__law_mix := Dn.of0 (P := l.prog) (w := w) (base := base) (mix_view (ok_mix0 F__law_mix B)) m__law_mix k__law_mix b__law_mix
  have c__law_next := Dn.of0 (P := l.prog) (w := w) (base := base) (next_view (ok_next0 F__law_next B)) m__law_next k__law_next b__law_next
  have c__law_alike := Dn.of0 (P := l.prog) (w := w) (base := base) (ok_alike F__law_alike B m__law_alike k__law_alike b__law_alike 40) m__law_alike k__law_alike b__law_alike
  have c__law_common := Dn.of0 (P := l.prog) (w := w) (base := base) (ok__law_common F__law_common) m__law_common k__law_common b__law_common
  have c__law_reduced := Dn.of0 (P := l.prog) (w := w) (base := base) (ok__law_reduced F__law_reduced c__law_common) m__law_reduced k__law_reduced b__law_reduced
  have c__law_stock := Dn.of0 (P := l.prog) (w := w) (base := base) (ok__law_stock F__law_stock B c__law_next) m__law_stock k__law_stock b__law_stock
  have c__law_wish := Dn.of0 (P := l.prog) (w := w) (base := base) (ok__law_wish F__law_wish B c__law_next c__law_common c__law_reduced) m__law_wish k__law_wish b__law_wish
  have c__law_level := Dn.of0 (P := l.prog) (w := w) (base := base) (ok__law_level F__law_level B c__law_reduced) m__law_level k__law_level b__law_level
  have c__law_levels := Dn.of0 (P := l.prog) (w := w) (base := base) (ok__law_levels F__law_levels B c__law_level) m__law_levels k__law_levels b__law_levels
  have c__law_first := Dn.of0 (P := l.prog) (w := w) (base := base) (ok__law_first F__law_first B c__law_reduced) m__law_first k__law_first b__law_first
  have c__law_asked := Dn.of0 (P := l.prog) (w := w) (base := base) (ok__law_asked F__law_asked B KC KA_NoWish ⟨hg_NoWish, hk_NoWish, hs_NoWish, hd_NoWish⟩ w_no c_fewest) m__law_asked k__law_asked b__law_asked
  exact ok_law F_law B c__law_mix c__law_next c__law_stock c__law_wish c__law_reduced c__law_levels c__law_first c__law_asked c__law_alike c_shows
end TD
open PySem PySem.W PyProof.Rows
set_option maxRecDepth 100000 in
set_option maxHeartbeats 0 in
theorem PySem.Challenge.cw_tickdivide_k08_whole_fewest_with_papers_holds : PySem.Challenge.rw_tickdivide_k08_whole_fewest_with_papers.Holds := by
  w_on; o_law; k_head; (case hw => w_witness2)
  k_fill
  refine L2.walk_of (l := PySem.Challenge.rw_tickdivide_k08_whole_fewest_with_papers) (n := 63) (k := 100) (x := "_law_script") (CX := fun _ => L2.CX0) (sp := fun w => TD.spLaw _) rfl (by decide) rfl ⟨rfl, by decide, by decide⟩ (fun w h Y => PySem.W.kIn_of Y) ?F (fun _ _ a ns hl _ hS => ⟨a, ns, rfl, hS, hl, fun _ => rfl⟩) (fun _ _ _ _ _ h => h)
  case F =>
    intro w mg fa h KX G hmg
    refine' TD.all_mk KX G hmg ?a_first_numbers ?l_first_numbers ?e_first_numbers ?k_first_numbers ?a_fewest ?l_fewest ?e_fewest ?k_fewest ?a__law_asked ?l__law_asked ?e__law_asked ?k__law_asked ?a_divisor ?l_divisor ?e_divisor ?k_divisor ?a_is_whole ?l_is_whole ?e_is_whole ?k_is_whole ?a_reduced ?l_reduced ?e_reduced ?k_reduced ?a_is_ratio ?l_is_ratio ?e_is_ratio ?k_is_ratio ?a_need_stock ?l_need_stock ?e_need_stock ?k_need_stock ?a_need_wish ?l_need_wish ?e_need_wish ?k_need_wish ?a_product ?l_product ?e_product ?k_product ?a_is_less ?l_is_less ?e_is_less ?k_is_less ?a_level_behind ?l_level_behind ?e_level_behind ?k_level_behind ?a_shows ?l_shows ?e_shows ?k_shows ?a__law_mix ?l__law_mix ?e__law_mix ?k__law_mix ?a__law_next ?l__law_next ?e__law_next ?k__law_next ?a__law_alike ?l__law_alike ?e__law_alike ?k__law_alike ?a__law_common ?l__law_common ?e__law_common ?k__law_common ?a__law_reduced ?l__law_reduced ?e__law_reduced ?k__law_reduced ?a__law_stock ?l__law_stock ?e__law_stock ?k__law_stock ?a__law_wish ?l__law_wish ?e__law_wish ?k__law_wish ?a__law_level ?l__law_level ?e__law_level ?k__law_level ?a__law_levels ?l__law_levels ?e__law_levels ?k__law_levels ?a__law_first ?l__law_first ?e__law_first ?k__law_first ?a_law ?l_law ?e_law ?k_law ?g_MOST_RATIOS ?g_MOST_BOTTOM ?g_MOST_WISHED ?xg_BadStock ?xq_BadStock ?xk_BadStock ?xs_BadStock ?xt_BadStock ?z_len ?z_range ?z_list ?z_sum ?z_zip ?z_max ?z_min ?z_sorted ?z_set ?z_dict ?z_enumerate ?z_divmod ?z_isinstance ?z_int ?z_str ?z_bool ?z_tuple ?z_VE ?y_BeatError ?y_NoBeat ?y_TooLong ?y_Ends ?y_NoWish ?y_NoNote ?e1_BE ?e2_BE ?e3_BE ?hg_NoWish ?hk_NoWish ?hs_NoWish ?hd_NoWish ?ha_NoWish ?hm_NoWish ?hb_NoWish ?i0_NoWish ?i1_NoWish ?i2_NoWish ?i3_NoWish ?i4_NoWish ?i5_NoWish ?iv_NoWish ?hn_oc ?ht_oc ?w_l ?w_sa ?w_ex ?w_ty ?w_k ?w_i ?w_it ?w_no ?l_nwi ?e_nwi ?k_nwi ?b_rd ?b_ga ?b_at
    (case a_first_numbers => k_is)
    (case l_first_numbers => k_is)
    (case e_first_numbers => k_is)
    (case k_first_numbers => k_is)
    (case a_fewest => k_is)
    (case l_fewest => k_is)
    (case e_fewest => k_is)
    (case k_fewest => k_is)
    (case a__law_asked => k_is)
    (case l__law_asked => k_is)
    (case e__law_asked => k_is)
    (case k__law_asked => k_is)
    (case a_divisor => k_is)
    (case l_divisor => k_is)
    (case e_divisor => k_is)
    (case k_divisor => k_is)
    (case a_is_whole => k_is)
    (case l_is_whole => k_is)
    (case e_is_whole => k_is)
    (case k_is_whole => k_is)
    (case a_reduced => k_is)
    (case l_reduced => k_is)
    (case e_reduced => k_is)
    (case k_reduced => k_is)
    (case a_is_ratio => k_is)
    (case l_is_ratio => k_is)
    (case e_is_ratio => k_is)
    (case k_is_ratio => k_is)
    (case a_need_stock => k_is)
    (case l_need_stock => k_is)
    (case e_need_stock => k_is)
    (case k_need_stock => k_is)
    (case a_need_wish => k_is)
    (case l_need_wish => k_is)
    (case e_need_wish => k_is)
    (case k_need_wish => k_is)
    (case a_product => k_is)
    (case l_product => k_is)
    (case e_product => k_is)
    (case k_product => k_is)
    (case a_is_less => k_is)
    (case l_is_less => k_is)
    (case e_is_less => k_is)
    (case k_is_less => k_is)
    (case a_level_behind => k_is)
    (case l_level_behind => k_is)
    (case e_level_behind => k_is)
    (case k_level_behind => k_is)
    (case a_shows => k_is)
    (case l_shows => k_is)
    (case e_shows => k_is)
    (case k_shows => k_is)
    (case a__law_mix => k_is)
    (case l__law_mix => k_is)
    (case e__law_mix => k_is)
    (case k__law_mix => k_is)
    (case a__law_next => k_is)
    (case l__law_next => k_is)
    (case e__law_next => k_is)
    (case k__law_next => k_is)
    (case a__law_alike => k_is)
    (case l__law_alike => k_is)
    (case e__law_alike => k_is)
    (case k__law_alike => k_is)
    (case a__law_common => k_is)
    (case l__law_common => k_is)
    (case e__law_common => k_is)
    (case k__law_common => k_is)
    (case a__law_reduced => k_is)
    (case l__law_reduced => k_is)
    (case e__law_reduced => k_is)
    (case k__law_reduced => k_is)
    (case a__law_stock => k_is)
    (case l__law_stock => k_is)
    (case e__law_stock => k_is)
    (case k__law_stock => k_is)
    (case a__law_wish => k_is)
    (case l__law_wish => k_is)
    (case e__law_wish => k_is)
    (case k__law_wish => k_is)
    (case a__law_level => k_is)
    (case l__law_level => k_is)
    (case e__law_level => k_is)
    (case k__law_level => k_is)
    (case a__law_levels => k_is)
    (case l__law_levels => k_is)
    (case e__law_levels => k_is)
    (case k__law_levels => k_is)
    (case a__law_first => k_is)
    (case l__law_first => k_is)
    (case e__law_first => k_is)
    (case k__law_first => k_is)
    (case a_law => k_is)
    (case l_law => k_is)
    (case e_law => k_is)
    (case k_law => k_is)
    (case g_MOST_RATIOS => k_is)
    (case g_MOST_BOTTOM => k_is)
    (case g_MOST_WISHED => k_is)
    (case xg_BadStock => k_is)
    (case xq_BadStock => k_exc)
    (case xk_BadStock => k_is)
    (case xs_BadStock => k_is)
    (case xt_BadStock => k_is)
    (case z_len => k_is)
    (case z_range => k_is)
    (case z_list => k_is)
    (case z_sum => k_is)
    (case z_zip => k_is)
    (case z_max => k_is)
    (case z_min => k_is)
    (case z_sorted => k_is)
    (case z_set => k_is)
    (case z_dict => k_is)
    (case z_enumerate => k_is)
    (case z_divmod => k_is)
    (case z_isinstance => k_is)
    (case z_int => k_is)
    (case z_str => k_is)
    (case z_bool => k_is)
    (case z_tuple => k_is)
    (case z_VE => k_is)
    (case y_BeatError => k_is)
    (case y_NoBeat => k_is)
    (case y_TooLong => k_is)
    (case y_Ends => k_is)
    (case y_NoWish => k_is)
    (case y_NoNote => k_is)
    (case e1_BE => k_is)
    (case e2_BE => k_is)
    (case e3_BE => k_is)
    (case hg_NoWish => k_is)
    (case hk_NoWish => k_is)
    (case hs_NoWish => k_is)
    (case hd_NoWish => k_is)
    (case ha_NoWish => k_is)
    (case hm_NoWish => k_is)
    (case hb_NoWish => k_is)
    (case i0_NoWish => kernel_rfl)
    (case i1_NoWish => kernel_rfl)
    (case i2_NoWish => kernel_rfl)
    (case i3_NoWish => kernel_rfl)
    (case i4_NoWish => kernel_rfl)
    (case i5_NoWish => kernel_rfl)
    (case iv_NoWish => kernel_rfl)
    (case hn_oc => k_is)
    (case ht_oc => k_is)
    (case w_l => first | k_is | kernel_rfl)
    (case w_sa => first | k_is | kernel_rfl)
    (case w_ex => first | k_is | kernel_rfl)
    (case w_ty => first | k_is | kernel_rfl)
    (case w_k => first | k_is | kernel_rfl)
    (case w_i => first | k_is | kernel_rfl)
    (case w_it => first | k_is | kernel_rfl)
    (case w_no => first | k_is | kernel_rfl)
    (case l_nwi => first | k_is | kernel_rfl)
    (case e_nwi => first | k_is | kernel_rfl)
    (case k_nwi => first | k_is | kernel_rfl)
    (case b_rd => first | k_is | kernel_rfl)
    (case b_ga => first | k_is | kernel_rfl)
    (case b_at => first | k_is | kernel_rfl)
