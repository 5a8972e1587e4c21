import PyProof.Rows.All
import Wide.All
import OpenK.AllK
import Wide.FinOn
import KE.KStateDown
import Lean
import HandS.ForMost
import HandS.ForExc
import HandS.More
import HandS.Defaults
import HandS.Star
import HandS.Property
import HandS.ClsMeth
import HandS.Codes
import HandS.Walk
import KE.GoesMore
import KE.GoesEnum
import HandS.Evl
import HandS.Flow
import HandS.Style
import HandS.TupAny
import HandS.IsInst
import HandS.Replace
import HandS.ExcValue
import HandS.SlotsOwn
import HandS.StrMore
import HandS.Wide
import HandS.Zip
import HandS.MakeKw
import HandS.MakeKwOnly
import HandS.Conv
import HandS.Head0
import HandS.Head1
import HandS.Head2
import HandS.HeadEnd
import HandS.HeadHook1
import HandS.HeadHook2
import HandS.HeadHook3
import HandS.HeadHook4
import PySem.Challenge.RW_bucketline_k33_whole_fires
set_option Elab.async false
set_option linter.all false
set_option maxRecDepth 100000
set_option maxHeartbeats 4000000
/-! ### plain lemmas -/
namespace Bk
open PySem PySem.Spec PyProof.Rows L2
def ivs (l : List Int) : List V := l.map V.int
theorem ivs_get {l : List Int} {i : Nat} {x : V} (hi : (ivs l)[i]? = some x) : ∃ u, l[i]? = some u ∧ x = V.int u := by
  unfold ivs at hi
  rw [List.getElem?_map] at hi
  cases e : l[i]? with
  | none => rw [e] at hi; cases hi
  | some u => rw [e] at hi; exact ⟨u, rfl, (Option.some.inj hi).symm⟩
/-- a source of numbers -/
def Src (l : List Int) : Prop := ∃ a b r, l = a :: b :: r ∧ 0 ≤ a ∧ 0 ≤ b ∧ ∀ x ∈ r, (0 : Int) ≤ x
theorem iteD {c : Prop} [Decidable c] {A B : Prop} (h1 : c → A) (h2 : ¬ c → B) : if decide c = true then A else B := by
  by_cases h : c
  · rw [decide_eq_true h]; exact iteT (h1 h)
  · rw [decide_eq_false h]; exact iteF (h2 h)
theorem vint {i j : Int} : V.int i = V.int j ↔ i = j := ⟨fun h => V.int.inj h, fun h => by rw [h]⟩
theorem at_0 {v : V} {r : List V} : atI (v :: r) 0 = some v := atI_nat (j := 0) rfl
theorem at_1 {u v : V} {r : List V} : atI (u :: v :: r) 1 = some v := atI_nat (j := 1) rfl
theorem ix_0 {v : V} {r : List V} : ixN (v :: r).length 0 = some 0 := Evl.ixN_nat (j := 0) (by simp)
theorem ix_1 {u v : V} {r : List V} : ixN (u :: v :: r).length 1 = some 1 := Evl.ixN_nat (j := 1) (by simp)
theorem sq_2 {t u v : V} {r : List V} : seqIndex? 2 (t :: u :: v :: r).length = some 2 := (ixN_seq (Evl.ixN_nat (j := 2) (by simp))).1
theorem vstr {i j : Str} : V.str i = V.str j ↔ i = j := ⟨fun h => V.str.inj h, fun h => by rw [h]⟩
theorem iteN {c : Prop} [Decidable c] {A B : Prop} (h1 : ¬ c → A) (h2 : c → B) : if (!decide c) = true then A else B := by
  by_cases h : c
  · rw [decide_eq_true h]; exact iteF (h2 h)
  · rw [decide_eq_false h]; exact iteT (h1 h)
theorem iteB {b : Bool} {A B : Prop} (h1 : b = true → A) (h2 : b = false → B) : if b = true then A else B := by
  cases b
  · exact iteF (h2 rfl)
  · exact iteT (h1 rfl)
theorem same_new {H : Hp} {p : Addr} {o : HO} (h : H p = none) : Same H (upd H p o) := Evl.Ex.new h
theorem same_mut {H H' : Hp} {p : Addr} {o : HO} (e : Same H H') (h : H p = none) : Same H (upd H' p o) := Evl.Ex.mut e h
end Bk
namespace L2
open PySem PySem.Spec PyProof.Rows
theorem Same.seqT {K : PySem.W.Frag} {H H' : Hp} {a : Addr} {xs : List V} (e : Same H H') (h : SqT K H a xs) : SqT K H' a xs := Evl.ex_t e h
end L2
namespace Bk
open PySem PySem.Spec PyProof.Rows L2
theorem SqT.of' {K : PySem.W.Frag} {H : Hp} {a : Addr} {xs : List V} (h : H a = some (.tup xs)) : SqT K H a xs := Or.inl (Or.inl h)
theorem ivs_len {l : List Int} : (ivs l).length = l.length := List.length_map ..
theorem ivs_at {l : List Int} {i : Nat} {u : Int} (h : l[i]? = some u) : (ivs l)[i]? = some (.int u) := by
  unfold ivs
  rw [List.getElem?_map, h]
  rfl
theorem ivs_app {l m : List Int} : ivs (l ++ m) = ivs l ++ ivs m := List.map_append ..
theorem sz {n : Nat} (h : n ≤ 100000) : n ≤ sizeLine := Evl.sz_of h
theorem szl {n : Nat} (h : n < 100000) : n < sizeLine := Evl.sz_lt h
/-! deep data -/
mutual
theorem dp_same {K : PySem.W.Frag} {H H' : Hp} (e : Same H H') : ∀ (d : PyData) (v : V), Dp K H v d → Dp K H' v d
  | .none, _, h => by cases h; exact .non
  | .bool b, _, h => by cases h; exact .bl _
  | .int i, _, h => by cases h; exact .int _
  | .str x, _, h => by cases h; exact .str _
  | .list ds, _, h => by
    cases h with
    | lst hs ha => exact .lst (Same.seq e hs) (dps_same e ds _ ha)
  | .tuple ds, _, h => by
    cases h with
    | tup hs ha => exact .tup (Same.seqT e hs) (dps_same e ds _ ha)
  | .dict kvs, _, h => by cases h
theorem dps_same {K : PySem.W.Frag} {H H' : Hp} (e : Same H H') : ∀ (ds : List PyData) (vs : List V), DpAll K H vs ds → DpAll K H' vs ds
  | [], _, h => by cases h; exact .nil
  | d :: ds, _, h => by
    cases h with
    | cons h1 h2 => exact .cons (dp_same e d _ h1) (dps_same e ds _ h2)
end
end Bk
namespace L2
open PySem PySem.Spec PyProof.Rows
theorem Dp.same {K : PySem.W.Frag} {H H' : Hp} {v : V} {d : PyData} (h : Dp K H v d) (e : Same H H') : Dp K H' v d := Bk.dp_same e d v h
theorem DpAll.same {K : PySem.W.Frag} {H H' : Hp} {vs : List V} {ds : List PyData} (h : DpAll K H vs ds) (e : Same H H') : DpAll K H' vs ds := Bk.dps_same e ds vs h
section
variable {K : PySem.W.Frag} {H : Hp}
theorem DpAll.len : ∀ {vs : List V} {ds : List PyData}, DpAll K H vs ds → vs.length = ds.length
  | _, _, .nil => rfl
  | _, _, .cons _ t => congrArg Nat.succ (DpAll.len t)
theorem DpAll.get : ∀ {vs : List V} {ds : List PyData} {i : Nat} {v : V}, DpAll K H vs ds → vs[i]? = some v → ∃ d, ds[i]? = some d ∧ Dp K H v d
  | _, _, i, _, .nil, e => by simp at e
  | _, _, 0, _, .cons r _, e => by simp at e; subst e; exact ⟨_, rfl, r⟩
  | _, _, i + 1, v, .cons _ t, e => by
    obtain ⟨d, h1, h2⟩ := DpAll.get (i := i) (v := v) t (by simpa using e)
    exact ⟨d, by simpa using h1, h2⟩
theorem DpAll.at : ∀ {vs : List V} {ds : List PyData} {i : Nat} {d : PyData}, DpAll K H vs ds → ds[i]? = some d → ∃ v, vs[i]? = some v ∧ Dp K H v d
  | _, _, i, _, .nil, e => by simp at e
  | _, _, 0, _, .cons r _, e => by simp at e; subst e; exact ⟨_, rfl, r⟩
  | _, _, i + 1, v, .cons _ t, e => by
    obtain ⟨d, h1, h2⟩ := DpAll.at (i := i) t (by simpa using e)
    exact ⟨d, by simpa using h1, h2⟩
theorem DpAll.app : ∀ {vs ws : List V} {ds es : List PyData}, DpAll K H vs ds → DpAll K H ws es → DpAll K H (vs ++ ws) (ds ++ es)
  | _, _, _, _, .nil, s => s
  | _, _, _, _, .cons r t, s => .cons r (DpAll.app t s)
theorem DpAll.take : ∀ {vs : List V} {ds : List PyData} (n : Nat), DpAll K H vs ds → DpAll K H (vs.take n) (ds.take n)
  | _, _, 0, _ => .nil
  | _, _, _ + 1, .nil => .nil
  | _, _, n + 1, .cons r t => .cons r (DpAll.take n t)
theorem DpAll.drop : ∀ {vs : List V} {ds : List PyData} (n : Nat), DpAll K H vs ds → DpAll K H (vs.drop n) (ds.drop n)
  | _, _, 0, r => r
  | _, _, _ + 1, .nil => .nil
  | _, _, n + 1, .cons _ t => DpAll.drop n t
end
end L2
namespace Bk
open PySem PySem.Spec PyProof.Rows L2
section
variable {K : PySem.W.Frag} {H : Hp}
theorem dps_ints : ∀ l : List Int, DpAll K H (ivs l) (l.map PyData.int)
  | [] => .nil
  | i :: l => .cons (.int i) (dps_ints l)
theorem dps_strs : ∀ l : List Str, DpAll K H (l.map V.str) (l.map PyData.str)
  | [] => .nil
  | i :: l => .cons (.str i) (dps_strs l)
theorem dps_ints_inv : ∀ {l : List Int} {vs : List V}, DpAll K H vs (l.map PyData.int) → vs = ivs l
  | [], _, .nil => rfl
  | i :: l, _, .cons h t => by
    cases h
    rw [dps_ints_inv t]
    rfl
theorem dp_lst {v : V} {ds : List PyData} (h : Dp K H v (.list ds)) : ∃ a xs, v = .ref a ∧ SqL K H a xs ∧ DpAll K H xs ds := by
  cases h with
  | lst hs ha => exact ⟨_, _, rfl, hs, ha⟩
theorem dp_tup {v : V} {ds : List PyData} (h : Dp K H v (.tuple ds)) : ∃ a xs, v = .ref a ∧ SqT K H a xs ∧ DpAll K H xs ds := by
  cases h with
  | tup hs ha => exact ⟨_, _, rfl, hs, ha⟩
theorem dp_int {v : V} {i : Int} (h : Dp K H v (.int i)) : v = .int i := by cases h; rfl
theorem dp_str {v : V} {i : Str} (h : Dp K H v (.str i)) : v = .str i := by cases h; rfl
theorem dp_bl {v : V} {i : Bool} (h : Dp K H v (.bool i)) : v = .bl i := by cases h; rfl
theorem dp_non {v : V} (h : Dp K H v .none) : v = .non := by cases h; rfl
end
theorem dp_mk_lst {K : PySem.W.Frag} {H : Hp} {a : Addr} {xs : List V} {ds : List PyData} (h : H a = some (.lst xs)) (hs : DpAll K H xs ds) : Dp K H (.ref a) (.list ds) := .lst (SqL.of h) hs
theorem dp_mk_tup {K : PySem.W.Frag} {H : Hp} {a : Addr} {xs : List V} {ds : List PyData} (h : H a = some (.tup xs)) (hs : DpAll K H xs ds) : Dp K H (.ref a) (.tuple ds) := .tup (SqT.of' h) hs
theorem cut_to {xs : List V} {i : Nat} (h : i ≤ xs.length) : cutV xs none (some (i : Int)) = xs.take i := by
  unfold cutV
  rw [HT.sIx_none, HT.sIx_nat, Nat.min_eq_left h]
  simp
theorem cut_from {xs : List V} {i : Nat} (h : i ≤ xs.length) : cutV xs (some (i : Int)) none = xs.drop i := by
  unfold cutV
  rw [HT.sIx_none, HT.sIx_nat, Nat.min_eq_left h]
  rw [List.take_of_length_le]
  rw [List.length_drop]
  exact Nat.le_refl _
theorem cut_ft {xs : List V} {i j : Nat} (h : i ≤ xs.length) (h2 : j ≤ xs.length) : cutV xs (some (i : Int)) (some (j : Int)) = (xs.drop i).take (j - i) := by
  unfold cutV
  rw [HT.sIx_nat, HT.sIx_nat, Nat.min_eq_left h, Nat.min_eq_left h2]
theorem delH_upd {H : Hp} {a : Addr} {o : HO} : delH (upd H a o) a = delH H a := by
  funext b
  unfold delH upd
  split <;> rfl
theorem same_del {H : Hp} {a : Addr} : Same (delH H a) H := fun b o h => by
  by_cases e : b = a
  · rw [e, delH_same] at h; cases h
  · rw [delH_ne e] at h; exact h
theorem upd_swap {G : Hp} {D q : Addr} {x y z : HO} (h : q ≠ D) : upd (upd (upd G D x) q y) D z = upd (upd G q y) D z := by
  funext b
  unfold upd
  by_cases e : b = D
  · simp [e]
  · simp [e]
theorem upd_comm {G : Hp} {D q : Addr} {x y : HO} (h : q ≠ D) : upd (upd G D x) q y = upd (upd G q y) D x := by
  funext b
  unfold upd
  by_cases e : b = D
  · subst e
    simp [Ne.symm h]
  · simp [e]
theorem del_mono {H H' : Hp} {a : Addr} (e : Same H H') : Same (delH H a) (delH H' a) := fun b o h => by
  by_cases z : b = a
  · rw [z, delH_same] at h; cases h
  · rw [delH_ne z] at h ⊢; exact e b o h
theorem del_new {H : Hp} {a t : Addr} {o : HO} (h : t ≠ a) (ht : H t = none) : Same (delH H a) (delH (upd H t o) a) := del_mono (same_new ht)
/-- a list of one's own at p: its items' data stand beside it -/
def Own (K : PySem.W.Frag) (H : Hp) (p : Addr) (ds : List PyData) : Prop := ∃ vs, H p = some (.lst vs) ∧ DpAll K (delH H p) vs ds
section
variable {K : PySem.W.Frag} {H H' : Hp} {p : Addr} {ds : List PyData}
theorem Own.same (h : Own K H p ds) (e : Same H H') : Own K H' p ds := by
  obtain ⟨vs, h1, h2⟩ := h
  exact ⟨vs, e _ _ h1, h2.same (del_mono e)⟩
theorem Own.dp (h : Own K H p ds) : Dp K H (.ref p) (.list ds) := by
  obtain ⟨vs, h1, h2⟩ := h
  exact .lst (SqL.of h1) (h2.same same_del)
theorem Own.nil (h : H p = some (.lst [])) : Own K H p [] := ⟨[], h, .nil⟩
theorem Own.push {vs : List V} {v : V} {d : PyData} (h2 : DpAll K (delH H p) vs ds) (hv : Dp K (delH H p) v d) : Own K (upd H p (.lst (vs ++ [v]))) p (ds ++ [d]) :=
  ⟨_, upd_same, by rw [delH_upd]; exact h2.app (.cons hv .nil)⟩
end
/-- what stood before, but for the object at a -/
theorem same_upd {G H : Hp} {a : Addr} {o : HO} (e : Same G H) (ha : G a = none) : Same G (upd H a o) := same_mut e ha
theorem del_upd_same {G H : Hp} {a : Addr} {o : HO} (e : Same (delH G a) H) : Same (delH G a) (upd H a o) := same_mut e delH_same
theorem del_upd_ne {H : Hp} {p d : Addr} {x : HO} (h : p ≠ d) : delH (upd H p x) d = upd (delH H d) p x := by
  funext b
  unfold delH upd
  by_cases e : b = d
  · subst e
    simp [Ne.symm h]
  · simp [e]
end Bk
/-! ### rules of my own over the hand layer -/
namespace Bk
open PySem PySem.Spec PyProof.Rows L2
/-! enumerate of a tuple -/
set_option maxHeartbeats 1000000 in
theorem meets_enumT {v : Value} {o : Obj} {Hh : Heap → Prop} (B : Begins v o Hh) :
    Meets (Builtin.«enumerate.__new__» ⟨[.type "enumerate", v], []⟩) (fun _ R s => Hh s.heap ∧
      R (.ok (.ret (.ref (s.heap.push o).objs.size))) { s with heap := (s.heap.push o).push { cls := .type "enumerate", data := .fields #[.none, .bool false, .ref s.heap.objs.size, rawInt 0, .none, .none] } }) :=
  .of_wp fun prog w A R s h => by
    obtain ⟨hh0, gg, d, tk0, os0⟩ := s; obtain ⟨hB, h⟩ := h
    have subE := sub_enumerate
    have itV : ∀ {A' : Around} {E : Value → Shared → Prop} {Q : Value → Shared → Prop}, Q (.ref hh0.objs.size) ⟨hh0.push o, gg, d, tk0, os0⟩ → wpAny (model prog w) A' (pyIter v) Q E ⟨hh0, gg, d, tk0, os0⟩ :=
      fun q => B.iter prog w _ _ ⟨hh0, gg, d, tk0, os0⟩ _ hB q
    wp_walk using itV
    refine wpAny_stack_any fun stt => wpAny_pure ?_
    split
    · rename_i c _ _ _ _ _
      cases (c == Value.type "enumerate")
      · wp_walk using itV
        exact ⟨_, rfl, h⟩
      · wp_walk using itV
        exact ⟨_, rfl, h⟩
    · wp_walk using itV
      exact ⟨_, rfl, h⟩
theorem call_enumT {prog : Program} {w : World} {A : Around} {E : Value → Shared → Prop} {s : Shared} {v : Value} {o : Obj} {Hh : Heap → Prop} {Q : Value → Shared → Prop} (B : Begins v o Hh) (hB : Hh s.heap)
    (h : ∀ h', IsEnum h' (s.heap.objs.size + 1) s.heap.objs.size 0 .none → h'.get? s.heap.objs.size = some o → h'.objs.size = s.heap.objs.size + 2 →
      (∀ b o, s.heap.get? b = some o → h'.get? b = some o) → Q (.ref (s.heap.objs.size + 1)) { s with heap := h' }) :
    wpAny (model prog w) A (call (.type "enumerate") [v]) Q E s := by
  refine callType_new F.called_enumerate (by decide) (F.typeCall_enumerate_1 _) (F.newCall_enumerate_1 _) (fun obj => F.args_object_init_2 obj _) F.entry_enumerate_new
    (meets_enumT B) ⟨hB, ?_⟩
  have hz0 : (s.heap.push o).objs.size = s.heap.objs.size + 1 := Heap.size_push ..
  show _ ∧ _
  rw [hz0]
  have hen : IsEnum ((s.heap.push o).push { cls := .type "enumerate", data := .fields #[.none, .bool false, .ref s.heap.objs.size, rawInt 0, .none, .none] }) (s.heap.objs.size + 1) s.heap.objs.size 0 .none := by
    have := Heap.get?_push_size (s.heap.push o) (o := { cls := .type "enumerate", data := .fields #[.none, .bool false, .ref s.heap.objs.size, rawInt 0, .none, .none] }) rfl
    rw [hz0] at this; exact this
  refine ⟨⟨_, hen, rfl⟩, h _ hen (Heap.get?_push_of_some _ (Heap.get?_push_size _ B.free)) (by rw [Heap.size_push, hz0]) fun b o x => Heap.get?_push_of_some _ (Heap.get?_push_of_some _ x)⟩
/-- the tuple at a, each item in a fresh pair -/
def IteT (K : PySem.W.Frag) (a : Addr) : It :=
  ⟨fun i H => ∃ (ys0 : List V) (x : V), SqT K H a ys0 ∧ ys0[i]? = some x, fun i H v H' => ∃ T x, v = .ref T ∧ H T = none ∧ H' = upd H T (.tup [.int (i : Nat), x]) ∧ ∀ ys0, SqT K H a ys0 → ys0[i]? = some x, fun i H => ∃ ys0 : List V, SqT K H a ys0 ∧ ys0.length = i⟩
theorem turn_enumT {P : Program} {w : World} {K : PySem.W.Frag} {elts : List Expr} {kk : Nat} {tpos : Pos} (a e it : Addr) (hai : a ≠ it) (hea : e ≠ a) :
    Turn P w K (.Tuple elts kk tpos) (IteT K a) [e, it] e (fun i h => (∃ was, IsEnum h e it ((i : Nat) : Int) was) ∧ h.IsTupleIter it a i ∧ e ≠ it) where
  mem := by simp
  obj := fun i h stt b hb => by
    obtain ⟨⟨was, hen⟩, ⟨o, ho, hc, hd⟩, _⟩ := stt
    have e' : b = e ∨ b = it := by simpa using hb
    rcases e' with z | z
    · rw [z]; exact ⟨_, hen, fun v q => nomatch q⟩
    · rw [z]; exact ⟨o, ho, fun v q => by rw [hd] at q; cases q⟩
  keep := fun i h h' stt k => let ⟨⟨was, hen⟩, hi, nEI⟩ := stt; ⟨⟨was, k e (by simp) _ hen⟩, hi.at fun o q => k it (by simp) o q, nEI⟩
  item := by
    intro X hP hw hK hc i pins s σ H E I hf stt hg
    subst hP hw hK
    obtain ⟨⟨was, hen⟩, hti, nEI⟩ := stt
    obtain ⟨ys0, x, hsq, hxx⟩ := hg
    obtain ⟨itms, rvs, p, hz0⟩ := I.tuple hsq
    obtain ⟨u, huu, rvu⟩ := rvs.get hxx
    have ltE : e < s.heap.objs.size := Heap.lt_size hen
    have ltI : it < s.heap.objs.size := by obtain ⟨_, q, _⟩ := hti; exact Heap.lt_size q
    have hh : X.A.in1.handled = none := I.ok.hd hc
    have ltA : i < itms.toArray.size := by
      rw [List.size_toArray]
      exact (List.getElem?_eq_some_iff.mp huu).1
    refine wpAny_pyNext_enum_itemD (Draws.tuple hh it a hai itms.toArray) hen ⟨hti, p⟩ ltA nEI (by simp [nEI, hea]) fun y h' tk0 hy ho hit' hT hsz0 hkk => ?_
    have ey : y = u := by
      have z : itms.toArray[i]? = some u := by simpa using huu
      rw [z] at hy
      exact (Option.some.inj hy).symm
    subst ey
    refine ⟨_, rfl, wpAny_letOwnedTupleGo_enum (s := { s with heap := h', toks := tk0 + 1 }) ho fun h'' he' sbb => ?_⟩
    have hTT : h''.get? s.heap.objs.size = some { cls := .type "tuple", data := .seq #[.int i tk0, y] } := (sbb.2 _ (Nat.ne_of_gt ltE)).trans hT
    have fresh : ObjOk X.prog X.w (upd H s.heap.objs.size (.tup [.int (i : Nat), x])) h'' s.heap.objs.size (.tup [.int (i : Nat), x]) :=
      ⟨by show 2 ≤ sizeLine; decide, [.int i tk0, y], .cons ⟨_, rfl⟩ (.cons rvu .nil), ⟨_, hTT, rfl, _, rfl⟩⟩
    have J1 : Inv X pins σ (upd H s.heap.objs.size (.tup [.int (i : Nat), x])) { s with heap := h'', toks := tk0 + 1 } :=
      I.turnedNew (ch := [e, it]) (fun b ob hb q => (sbb.2 b (fun z => hb (by simp [z]))).trans (hkk b ob (fun z => hb (by simp [z])) (fun z => hb (by simp [z])) q)) hf (Nat.le_refl _) fresh
    refine ⟨.ref s.heap.objs.size, _, J1, rfl, ⟨_, x, rfl, I.hok.fresh (Nat.le_refl _), rfl, fun ys hy' => by rw [I.tuple_inj hy' hsq]; exact hxx⟩, ⟨⟨y, ?_⟩, hit'.1.at fun o q => (sbb.2 it (Ne.symm nEI)).trans q, nEI⟩, fun b hb => ?_⟩
    · have ei1 : ((i + 1 : Nat) : Int) = (i : Int) + 1 := by omega
      rw [ei1]; exact he'
    · have hb' : b < s.heap.objs.size := by
        have e' : b = e ∨ b = it := by simpa using hb
        rcases e' with z | z
        · rw [z]; exact ltE
        · rw [z]; exact ltI
      rw [upd_ne (Nat.ne_of_lt hb')]
      exact (hf b hb).1
  done := by
    intro X hP hw hK hc i pins s σ H E I hf stt hg
    subst hP hw hK
    obtain ⟨⟨was, hen⟩, hti, nEI⟩ := stt
    obtain ⟨ys0, hsq, hxx⟩ := hg
    obtain ⟨itms, rvs, p, hz0⟩ := I.tuple hsq
    obtain ⟨f0, f1, f2, f3, f4, f5⟩ := hf it (by simp)
    have hl := rvs.length
    have hi : itms.toArray.size = i := by
      rw [List.size_toArray, ← hl]
      exact hxx
    subst hi
    have hh : X.A.in1.handled = none := I.ok.hd hc
    exact wpAny_pyNext_enum_endD (Draws.tuple hh it a hai itms.toArray) hen ⟨hti, p⟩ fun h' eb => ⟨rfl, I.turned (t' := s.toks) (fun b o hb q => eb b o hb q) f0 f1 f3 f4 f5⟩
  self := fun A i s Q E stt h => let ⟨⟨_, hen⟩, _⟩ := stt; wpAny_pyIter_enum hen h
def iEnumT (K : PySem.W.Frag) (ta : TA) : TI := fun σ H R => ta σ H fun vs H1 => ∃ a ys0, vs = [.ref a] ∧ SqT K H1 a ys0 ∧ R (IteT K a) H1
theorem pi_enumT {X : Cx} {e : Expr} {ta : TA} {p pos tpos : Pos} {elts : List Expr} {kk : Nat} (hg : Gl X "enumerate") (hm : X.mg "enumerate" = none) (ha : PA X [e] ta) (hs : starEach [e] X.env = [(false, eval e X.env)] := by rfl) :
    PI X (.Tuple elts kk tpos) (.Call (.Name "enumerate" p) [e] [] pos) (iEnumT X.K ta) := by
  refine ⟨fun pins s σ H R I h => ?_⟩
  refine Call_ (ld_blt I hg hm boot_enumerate (PyProof.Rows.callWith_type1 (thn (ha.run pos pins s σ H _ I h) fun us s1 ⟨vs, H1, J1, r1, itV⟩ => ?_) hs rfl))
  obtain ⟨a, ys0, ex, hsq, q⟩ := itV
  subst ex
  cases r1 with
  | cons r rr =>
    cases rr
    cases r
    obtain ⟨itms, rvs, p', hz0⟩ := J1.tuple hsq
    have ltA : a < s1.heap.objs.size := by obtain ⟨_, z, _⟩ := p'; exact Heap.lt_size z
    refine call_enumT (begins_tuple a itms.toArray) p' fun h' hen hti hsz0 hkk => wpAny_pyIter_enum hen ?_
    have J2 : Inv X pins σ H1 { s1 with heap := h' } := J1.kept (t' := s1.toks) hkk
    refine ⟨s1.heap.objs.size + 1, [s1.heap.objs.size + 1, s1.heap.objs.size], _, _, H1, rfl, J2, turn_enumT a (s1.heap.objs.size + 1) s1.heap.objs.size (Nat.ne_of_lt ltA) (Nat.ne_of_gt (Nat.lt_succ_of_lt ltA)), ⟨⟨.none, hen⟩, ⟨_, hti, rfl, rfl⟩, Nat.succ_ne_self _⟩, fun b hb => ?_, q⟩
    have e' : b = s1.heap.objs.size + 1 ∨ b = s1.heap.objs.size := by simpa using hb
    have leS : s1.heap.objs.size ≤ b := by
      rcases e' with z | z
      · rw [z]; exact Nat.le_add_right _ _
      · rw [z]; exact Nat.le_refl _
    exact J1.fpOk leS (J1.hok.fresh leS)
theorem walk_enumT {K : PySem.W.Frag} {a : Addr} {ys0 : List V} : Walk (IteT K a) ys0.length (fun H => SqT K H a ys0) (YPair (fun i => some (.int (i : Nat))) (fun i => ys0[i]?)) := by
  refine ⟨fun i _ hi q => ⟨ys0, ys0[i], q, by simp [hi]⟩, fun _ q => ⟨ys0, q, rfl⟩, fun i H v H' _ q y => ?_⟩
  obtain ⟨T, x, hB, h2, h3, h4⟩ := y
  exact ⟨T, .int (i : Nat), x, hB, h2, h3, rfl, h4 ys0 q⟩

/-! C(*e) -/
section
variable {X : Cx} {CX : CXT} {k : Nat} {f C : Addr} {sp : Sp} {E : XK} {x : Str} {e : Expr} {te : TE} {p sp_ pos : Pos}
def tMakeS (K : PySem.W.Frag) (C : Addr) (sp : Sp) (E : XK) (te : TE) : TE := fun σ H Q => te σ H fun y H1 => ∃ a xs, y = V.ref a ∧ (SqT K H1 a xs ∨ SqL K H1 a xs) ∧
  ∀ x dx, H1 x = Option.none → H1 dx = Option.none → dx ≠ x → sp (V.ref x :: xs) (upd (upd H1 dx (.own x)) x (.ins C dx [])) (fun v H2 => v = .non ∧ Q (.ref x) H2) E
theorem pe_makeS (M : Mk X.K C f) (F : FnR X.prog X.w X.K X.mg X.base CX k f sp) (hr : Room (k + 1) X.A) (hg : Gl X x) (hm : X.mg x = some (.ref C)) (hx : Passes CX X E) (he : PE X e te) (hd : (x == ("__debug__" : Str)) = false := by decide)
    (hst : starEach [.Starred e sp_] X.env = [(true, eval e X.env)] := by rfl) :
    PE X (.Call (.Name x p) [.Starred e sp_] [] pos) (tMakeS X.K C sp E te) := by
  refine ⟨fun pins s σ H Q I h => ?_⟩
  refine wpAny_Call_Name_kw (ld_glob I hg hm ?_ hd)
  refine PySem.W.callWith_S (h₀ := X.base) I.ok.mod.kin M.kp (thn (he.run pins s σ H _ I h) fun v s1 ⟨y, H1, I1, ry, a, xs, ey, hxs, q⟩ => ?_) hst
  subst ey
  obtain rfl : v = Value.ref a := ry
  exact StX.star_any I1 hxs fun us s2 I2 rv => ⟨I2.kIn, StX.run_makeR M F hr hx I2 rv q⟩
end

/-! len of an instance -/
section
variable {X : Cx} {CX : CXT} {n : Nat} {C g : Addr} {sp : Sp} {E : XK}
def rLenO (C : Addr) (sp : Sp) (E : XK) : List V → Hp → VK → Prop := fun xs H Q => ∃ a dx fs, xs = [V.ref a] ∧ H a = some (.ins C dx fs) ∧ sp [.ref a] H (fun z H' => ∃ i : Int, z = .int i ∧ 0 ≤ i ∧ i < 2 ^ 63 ∧ Q (.int i) H') E
theorem call_lenO (hs : PySem.W.findIn X.K (.ref C) "__len__" = some (some (.ref g))) (hf : PySem.W.isFn X.K (.ref g) = true) (F : FnR X.prog X.w X.K X.mg X.base CX n g sp) (hr : Room (n + 1) X.A) (hx : Passes CX X E) : CallR X (.builtin "len") (rLenO C sp E) := by
  intro pins s σ H xs us Q I r h
  obtain ⟨a, dx, fs, rfl, hi, q⟩ := h
  obtain ⟨u, rfl, ru⟩ := r.one
  cases (show u = Value.ref a from ru)
  obtain ⟨mA, O, _⟩ := ins_get I.hok hi
  obtain ⟨od, J, _⟩ := O.look
  obtain ⟨m, hF⟩ := I.fr
  refine PySem.W.len_K hF I.ok.mod.kin J hs hf (wpAny_mono (wpAny_call (SlX.run_at (us := [.ref a]) (ws := [.ref a]) F hr.in1 I.env0.in1 hx I (.cons rfl .nil) q)) (fun w s' z => ?_) fun _ _ x => x)
  obtain ⟨z', H', I', rz, i, ei, h0, h1, qz⟩ := z
  subst ei
  obtain ⟨t, e⟩ := (show ∃ t, w = Value.int i t from rz)
  cases e
  exact ⟨⟨h0, h1⟩, .int i, H', I'.tok _, ⟨_, rfl⟩, qz⟩
end

/-! a mutable list set aside while an expression runs that does not touch it -/
def tFr (t : TE) : TE := fun σ H Q => ∃ d l, H d = some (.lst l) ∧ t σ (delH H d) (fun v G => G d = none → Q v (upd G d (.lst l)))
theorem Inv.aside {X : Cx} {pins : List (Addr × Obj)} {σ : L2.St} {H : Hp} {s : Shared} {d : Addr} {l : List V} (I : Inv X pins σ H s) (hd : H d = some (.lst l)) :
    ∃ o, s.heap.get? d = some o ∧ Inv X (pins ++ [(d, o)]) σ (delH H d) s ∧
      ∀ H' s', Inv X (pins ++ [(d, o)]) σ H' s' → H' d = none ∧ Inv X pins σ (upd H' d (.lst l)) s' := by
  obtain ⟨hz, its, n, rv, ho⟩ := I.hok d _ hd
  have dl : d ≠ X.env.locals := fun e => by rw [e, I.free] at hd; cases hd
  have dfs : d ∉ X.fs := fun hb => by
    obtain ⟨_, o, hoo, _⟩ := I.ok.funs.mem hb
    have q := I.base.free d o hoo (I.ok.frf d hb) (fun z => I.ok.exfs d z hb)
    rw [q] at hd; cases hd
  have dc : ∀ v, (.seq its.toArray n : Data) ≠ .cell v := fun v q => nomatch q
  have d0 : ∀ o, X.s_0.heap.get? d = some o → X.H_0 d = none → d ∉ X.ex → False := fun o q1 q2 q3 => by
    have q := I.base.free d o q1 q2 q3
    rw [q] at hd; cases hd
  refine ⟨_, ho, ?_, ?_⟩
  · refine ⟨I.ok, I.os, I.bare, ⟨I.base.keep, I.base.slot, fun b o q n' hx => ?_, I.base.there, fun b xs q => ?_, fun b o u q => ?_, fun b ps q => ?_⟩, I.loc, I.cell, ?_, fun x c q => ?_, fun p hp => ?_, fun b o q => ?_, I.len⟩
    · unfold delH
      split
      · rfl
      · exact I.base.free b o q n' hx
    · have q2 := I.base.tups b xs q
      rw [delH_ne (fun e => by rw [e, hd] at q2; cases q2)]
      exact q2
    · have q2 := I.base.frzs b o u q
      rw [delH_ne (fun e => by rw [e, hd] at q2; cases q2)]
      exact q2
    · obtain ⟨m, q2⟩ := I.base.tbls b ps q
      exact ⟨m, by rw [delH_ne (fun e => by rw [e, hd] at q2; cases q2)]; exact q2⟩
    · rw [delH_ne (Ne.symm dl)]
      exact I.free
    · unfold delH
      split
      · rfl
      · exact I.freeC x c q
    · rcases List.mem_append.mp hp with hp | hp
      · obtain ⟨h1, h2, h3⟩ := I.pin p (List.mem_append_left _ hp)
        refine ⟨h1, ?_, h3⟩
        unfold delH
        split
        · rfl
        · exact h2
      · rcases List.mem_append.mp hp with hp | hp
        · obtain ⟨h1, h2, h3⟩ := I.pin p (List.mem_append_right _ hp)
          refine ⟨h1, ?_, h3⟩
          unfold delH
          split
          · rfl
          · exact h2
        · rw [List.mem_singleton.mp hp]
          exact ⟨ho, delH_same, dl, dfs, dc⟩
    · have nb : b ≠ d := fun e => by rw [e, delH_same] at q; cases q
      rw [delH_ne nb] at q
      exact (I.hok b o q).stay (fun _ _ _ z => z) (fun c z => by rw [delH_ne (fun e => by rw [e, hd] at z; cases z)]; exact z) fun c xs z => by rw [delH_ne (fun e => by rw [e, hd] at z; cases z)]; exact z
  · intro H' s' J
    obtain ⟨g1, g2, g3, g4, g5⟩ := J.pin (d, _) (List.mem_append_right _ (List.mem_append_right _ (List.mem_singleton_self _)))
    have g2' : H' d = none := g2
    refine ⟨g2', J.ok, J.os, J.bare, ⟨J.base.keep, J.base.slot, fun b o q n' hx => ?_, J.base.there, fun b xs q => ?_, fun b o u q => ?_, fun b ps q => ?_⟩, J.loc, J.cell, ?_, fun x c q => ?_, fun p hp => ?_, fun b o q => ?_, J.len⟩
    · by_cases e : b = d
      · subst e
        exact (d0 o q n' hx).elim
      · rw [upd_ne e]
        exact J.base.free b o q n' hx
    · have q2 := J.base.tups b xs q
      rw [upd_ne (ne_of_none q2 g2')]
      exact q2
    · have q2 := J.base.frzs b o u q
      rw [upd_ne (ne_of_none q2 g2')]
      exact q2
    · obtain ⟨m, q2⟩ := J.base.tbls b ps q
      exact ⟨m, by rw [upd_ne (ne_of_none q2 g2')]; exact q2⟩
    · rw [upd_ne (Ne.symm dl)]
      exact J.free
    · rw [upd_ne ?_]
      · exact J.freeC x c q
      · intro e
        obtain ⟨v, oc, hoc, hdc⟩ := J.cell x c q
        rw [e, g1] at hoc
        cases hoc
        cases hdc
    · obtain ⟨h1, h2, h3⟩ := J.pin p (by
        rcases List.mem_append.mp hp with hp | hp
        · exact List.mem_append_left _ hp
        · exact List.mem_append_right _ (List.mem_append_left _ hp))
      refine ⟨h1, ?_, h3⟩
      have np : p.1 ≠ d := fun e => by
        have z := (I.pin p hp).2.1
        rw [e, hd] at z; cases z
      rw [upd_ne np]
      exact h2
    · by_cases e : b = d
      · subst e
        rw [upd_same] at q
        cases q
        exact ⟨hz, its, n, rv, g1⟩
      · rw [upd_ne e] at q
        exact (J.hok b o q).stay (fun _ _ _ z => z) (fun c z => by rw [upd_ne (ne_of_none z g2')]; exact z) fun c xs z => by rw [upd_ne (ne_of_none z g2')]; exact z
theorem pe_fr {X : Cx} {e : Expr} {t : TE} (h : PE X e t) : PE X e (tFr t) := by
  refine ⟨fun pins s σ H Q I hq => ?_⟩
  obtain ⟨d, l, hd, q⟩ := hq
  obtain ⟨o, ho, J, back⟩ := Inv.aside I hd
  refine wpAny_mono (h.run _ s σ _ _ J q) (fun u s' z => ?_) fun _ _ z => z
  obtain ⟨v, H', J', rv, q'⟩ := z
  obtain ⟨g, I'⟩ := back H' s' J'
  exact ⟨v, _, I', rv, q' g⟩
end Bk
/-! ### the layer's rules with the written part named -/
namespace Bk
open PySem PySem.Spec PyProof.Rows L2
section
variable (K : PySem.W.Frag) {X : Cx}
theorem ixL (h : X.K = K := by rfl) : IxR X (rIxL K) := by subst h; exact ix_list
theorem ixT (h : X.K = K := by rfl) : IxR X (rIxT K) := by subst h; exact ix_tup
theorem ixQ (h : X.K = K := by rfl) : IxR X (rIx K) := by subst h; exact ix_seq
theorem slL (h : X.K = K := by rfl) : SlR X (rSlL K) := by subst h; exact sl_list
theorem slT (h : X.K = K := by rfl) : SlR X (rSlT K) := by subst h; exact sl_tup
def rLenQ : List V → Hp → VK → Prop := fun xs H Q => ∃ p ys, xs = [.ref p] ∧ (SqL K H p ys ∨ SqT K H p ys) ∧ Q (.int ys.length) H
theorem c_len (h : X.K = K := by rfl) : CallR X (.builtin "len") (rLenQ K) := by subst h; exact call_len_seq
theorem o_in (h : X.K = K := by rfl) : OpR X (compareOp .In) (rIn K false) := by subst h; exact op_in_seq
theorem o_ni (h : X.K = K := by rfl) : OpR X (compareOp .NotIn) (rIn K true) := by subst h; exact op_notIn_seq
theorem o_eqD (hu : X.A.units + 64 < cLine) (h : X.K = K := by rfl) : OpR X (compareOp .Eq) (rEqD K) := by subst h; exact op_eqD hu
theorem o_neD (hu : X.A.units + 64 < cLine) (h : X.K = K := by rfl) : OpR X (compareOp .NotEq) (rNeD K) := by subst h; exact op_neD hu
def rListQ : List V → Hp → VK → Prop := fun xs H Q => ∃ p ys, xs = [.ref p] ∧ (SqL K H p ys ∨ SqT K H p ys) ∧ ∀ l, H l = none → Q (.ref l) (upd H l (.lst ys))
theorem c_list (h : X.K = K := by rfl) : CallR X (.type "list") (rListQ K) := by subst h; exact call_list_of
def rTupQ : List V → Hp → VK → Prop := fun xs H Q => ∃ p ys, xs = [.ref p] ∧ ((SqL K H p ys ∧ ∀ l, H l = none → Q (.ref l) (upd H l (.tup ys))) ∨ (SqT K H p ys ∧ Q (.ref p) H))
theorem c_tuple (h : X.K = K := by rfl) : CallR X (.type "tuple") (rTupQ K) := by subst h; exact call_tuple_of
theorem c_sum (hc : X.calm = true) (h : X.K = K := by rfl) : CallR X (.builtin "sum") (rSum K) := by subst h; exact cr_sum hc
theorem c_max (hc : X.calm = true) (h : X.K = K := by rfl) : CallR X (.builtin "max") (rMax K) := by subst h; exact cr_max hc
theorem c_min (hc : X.calm = true) (h : X.K = K := by rfl) : CallR X (.builtin "min") (rMin K) := by subst h; exact cr_min hc
theorem c_any (hc : X.calm = true) (h : X.K = K := by rfl) : CallR X (.builtin "any") (rAny K) := by subst h; exact cr_any hc
theorem c_all (hc : X.calm = true) (h : X.K = K := by rfl) : CallR X (.builtin "all") (rAll K) := by subst h; exact cr_all hc
theorem c_sorted (h : X.K = K := by rfl) : CallR X (.builtin "sorted") (rSorted K) := by subst h; exact cr_sorted
theorem c_isi (h : X.K = K := by rfl) : CallR X (.builtin "isinstance") (rIsi K) := by subst h; exact call_isi
theorem m_index (h : X.K = K := by rfl) : MtR X "list.index" (rIndex K) := by subst h; exact mt_index
theorem o_catT (h : X.K = K := by rfl) : OpR X (binaryOp .Add) (rCatA K) := by subst h; exact op_catA
theorem iL {tg l : Expr} {tl : TE} (hl : PE X l tl) (h : X.K = K := by rfl) : PI X tg l (iList K tl) := by subst h; exact pi_list hl
theorem iT {tg l : Expr} {tl : TE} (hl : PE X l tl) (h : X.K = K := by rfl) : PI X tg l (iTup K tl) := by subst h; exact pi_tup hl
theorem e_fld {e : Expr} {f : Str} {pos : Pos} {ta : TE} (he : PE X e ta) (hb : attributeBase e f X.env (eval e X.env) = eval e X.env := by rfl) (h : X.K = K := by rfl) : PE X (.Attribute e f pos) (tFld K ta f) := by subst h; exact pe_fld he hb
theorem e_cval {e : Expr} {f : Str} {pos : Pos} {ta : TE} (he : PE X e ta) (hb : attributeBase e f X.env (eval e X.env) = eval e X.env := by rfl) (h : X.K = K := by rfl) : PE X (.Attribute e f pos) (ClX.tCVal K ta f) := by subst h; exact ClX.pe_cval he hb
theorem e_revL {e : Expr} {te : TE} {k : Nat} {p1 p2 p3 pos : Pos} (he : PE X e te) (h : X.K = K := by rfl) : PE X (.Subscript e (.Slice none none (some (.UnaryOp .USub (.Constant (.int 1) k p1) p2)) p3) pos) (tRevL K te) := by subst h; exact pe_revL he
theorem e_bm0 {T : String} {name : Str} {id : String} {r : V → List V → Hp → VK → Prop} {o : Expr} {to : TE} {apos cpos : Pos} (pa : PlainAttrs T) (slot : Slot T name id) (hty : typeOf (.builtin id) = pure (.type "method_descriptor")) (hm : MtR X id r) (ho : PE X o to)
    (hbase : attributeBase o name X.env (eval o X.env) = eval o X.env := by rfl) (hline : (apos.endLine == cpos.line) = true := by rfl) (h : X.K = K := by rfl) : PE X (.Call (.Attribute o name apos) [] [] cpos) (tBM0 K T r to) := by subst h; exact pe_bm0 pa slot hty hm ho hbase hline
theorem e_bm {T : String} {name : Str} {id : String} {r : V → List V → Hp → VK → Prop} {o e : Expr} {es : List Expr} {to : TE} {t : TA} {apos cpos : Pos} (pa : PlainAttrs T) (slot : Slot T name id) (hty : typeOf (.builtin id) = pure (.type "method_descriptor")) (hm : MtR X id r) (ho : PE X o to) (ha : PA X (e :: es) t)
    (hbase : attributeBase o name X.env (eval o X.env) = eval o X.env := by rfl)
    (hfew : ((backTo cpos (starEach (e :: es) X.env)).all (fun x => !x.1) && (backToKw cpos (keywordEach [] X.env)).all (fun x => x.1.isSome)
      && decide ((e :: es).length + ([] : List Keyword).length + (if ([] : List Keyword).isEmpty then 0 else 1) < 30)) = true := by rfl)
    (hline : (apos.endLine == cpos.line) = true := by rfl) (hs : starEach (e :: es) X.env = (false, eval e X.env) :: starEach es X.env := by rfl) (hplain : (backTo cpos (starEach es X.env)).any (·.1) = false := by rfl) (h : X.K = K := by rfl) :
    PE X (.Call (.Attribute o name apos) (e :: es) [] cpos) (tBM K T r to t) := by subst h; exact pe_bm pa slot hty hm ho ha hbase hfew hline hs hplain
def rJoin : V → List V → Hp → VK → Prop := fun x xs H Q => ∃ a p, ∃ ys : List Str, x = .str a ∧ xs = [.ref p] ∧ (SqL K H p (ys.map V.str) ∨ SqT K H p (ys.map V.str)) ∧ (ys.map (·.length)).sum + ys.length * a.length ≤ 16777216 ∧ Q (.str (Txt.join a ys)) H
theorem e_join {o e : Expr} {to te : TE} {apos pos : Pos} (ho : PE X o to) (he : PE X e te) (hs : starEach [e] X.env = [(false, eval e X.env)] := by rfl) (hbase : attributeBase o "join" X.env (eval o X.env) = eval o X.env := by rfl) (hline : (apos.endLine == pos.line) = true := by rfl) (h : X.K = K := by rfl) :
    PE X (.Call (.Attribute o "join" apos) [e] [] pos) (tM1 (rJoin K) to te) := by subst h; exact pe_join ho he hs hbase hline
theorem a_star {e : Expr} {es : List Expr} {te : TE} {t : TA} {p : Pos} (he : PE X e te) (hr : PA X es t) (hs : starEach (.Starred e p :: es) X.env = (true, eval e X.env) :: starEach es X.env := by rfl) (h : X.K = K := by rfl) : PA X (.Starred e p :: es) (StX.tStar K te t) := by subst h; exact StX.pa_star he hr hs
theorem g_tup (n : Nat) {es : List Expr} {k : Nat} {t : TGs} {pos : Pos} (hc : X.calm = true) (hh : PGs X es t)
    (hn : (assignEach es X.env).length = n := by rfl) (hst : (assignEach es X.env).findIdx? (·.1) = none := by rfl) (h : X.K = K := by rfl) : PG X (.Tuple es k pos) (gTup K n t) := by subst h; exact pg_tup hc hh hn hst
end
theorem log2_top {n : Nat} (h : n ≤ 1000000000000000000000000000000) : n.log2 < 9000 := by
  by_cases h0 : n = 0
  · subst h0; decide
  · refine (Nat.log2_lt h0).mpr (Nat.lt_of_le_of_lt h ?_)
    calc 1000000000000000000000000000000 < 2 ^ 100 := by decide
      _ ≤ 2 ^ 9000 := Nat.pow_le_pow_right (by decide) (by decide)
/-- // by a positive divisor up to 10 ** 30 -/
theorem op_fdivB {X : Cx} : OpR X (binaryOp .FloorDiv) (rI (fun _ j => 0 < j ∧ j ≤ 1000000000000000000000000000000) fun i j => .int (i / j)) := opI fun i j _ _ _ _ _ hc q => by
  have h1 : (0 : Int) < j := hc.1
  have h2 : j ≤ 1000000000000000000000000000000 := hc.2
  exact floordiv_int (by omega) (by rw [Int.fdiv_eq_ediv_of_nonneg i (by omega)]; exact q) (.inl (PyProof.noPylong_of_log2 (log2_top (by omega))))
/-- a property of the class at C, its getter's promise -/
def PropC (P : Program) (w : World) (K : PySem.W.Frag) (mg : Str → Option Value) (base : Heap) (k : Nat) (C : Addr) (f : Str) (sp : Sp) : Prop := ∃ p g fd, PropOf K C f p g ∧ FnOk P w K mg base CX0 k g fd ["self"] sp ∧ Binds K fd ["self"] []
theorem e_prop {X : Cx} {C : Addr} {f : Str} {sp : Sp} {k j : Nat} {e : Expr} {ta : TE} {pos : Pos} (c : PropC X.prog X.w X.K X.mg X.base k C f sp) (cl : Cls X.K C) (hr : Room j X.A) (hk : k + 1 ≤ j) (he : PE X e ta)
    (hab : attributeBase e f X.env (eval e X.env) = eval e X.env := by rfl) : PE X (.Attribute e f pos) (tProp C sp [] E0 ta) := by
  obtain ⟨p, g, fd, hp, F, b⟩ := c
  exact pe_prop he cl hp F (hr.mono hk) b .nil pass0 hab
def LenC (P : Program) (w : World) (K : PySem.W.Frag) (mg : Str → Option Value) (base : Heap) (k : Nat) (C : Addr) (sp : Sp) : Prop := ∃ g, PySem.W.findIn K (.ref C) "__len__" = some (some (.ref g)) ∧ PySem.W.isFn K (.ref g) = true ∧ FnR P w K mg base CX0 k g sp
theorem c_lenL {X : Cx} {C : Addr} {sp : Sp} {k j : Nat} (c : LenC X.prog X.w X.K X.mg X.base k C sp) (hr : Room j X.A) (hk : k + 1 ≤ j) : CallR X (.builtin "len") (rLenO C sp E0) := by
  obtain ⟨g, h1, h2, F⟩ := c
  exact call_lenO h1 h2 F (hr.mono hk) pass0
end Bk
namespace Bk
open PySem PySem.Spec PyProof.Rows L2
/-- an instance of the class at C, called -/
def CallC (P : Program) (w : World) (K : PySem.W.Frag) (mg : Str → Option Value) (base : Heap) (k : Nat) (C : Addr) (sp : Sp) : Prop := ∃ g, StX.CallO K C g ∧ FnR P w K mg base CX0 k g sp
def tCallI (C : Addr) (sp : Sp) (tf : TE) (t : TA) : TE := fun σ H Q => tf σ H fun y H1 => ∃ a, y = V.ref a ∧ t σ H1 fun vs H2 => (∃ dx fs, H2 a = some (.ins C dx fs)) ∧ sp (V.ref a :: vs) H2 Q E0
theorem e_callO {X : Cx} {C : Addr} {sp : Sp} {k j : Nat} {fe e : Expr} {es : List Expr} {tf : TE} {t : TA} {pos : Pos} (c : CallC X.prog X.w X.K X.mg X.base k C sp) (hr : Room j X.A) (hk : k ≤ j) (hf : PE X fe tf) (ha : PA X (e :: es) t)
    (ht : eval (.Call fe (e :: es) [] pos) X.env = (do callWith pos (← eval fe X.env) [] (backTo pos (starEach (e :: es) X.env)) (backToKw pos (keywordEach [] X.env))) := by rfl)
    (he : starEach (e :: es) X.env = (false, eval e X.env) :: starEach es X.env := by rfl) (hpl : (backTo pos (starEach es X.env)).any (·.1) = false := by rfl) : PE X (.Call fe (e :: es) [] pos) (tCallI C sp tf t) := by
  obtain ⟨g, cO, F⟩ := c
  refine ⟨fun pns ss σ H Q J h => ?_⟩
  refine Call_ (thn (hf.run pns ss σ H _ J h) fun u s1 ⟨y, H1, J1, ry, a, ey, q⟩ => ?_) ht
  subst ey
  obtain rfl : u = Value.ref a := ry
  refine StX.callO_with (thn (ha.run pos pns s1 σ H1 _ J1 q) fun us s2 ⟨vs, H2, J2, r, hi, q2⟩ => ?_) he hpl
  obtain ⟨dx, fs, hx⟩ := hi
  obtain ⟨ox, od, N, hd⟩ := StX.insC_at (X := X) J2 (.inr ⟨dx, fs, hx⟩)
  exact ⟨⟨C, ox, od, N, hd⟩, StX.run_callO cO F (hr.mono hk) pass0 J2 (.inr ⟨dx, fs, hx⟩) r q2⟩
end Bk
namespace Bk
open PySem PySem.Spec PyProof.Rows L2
/-! C(e, .., k = v, ..), every parameter given; *range(..) in a display -/
structure MakK (P : Program) (w : World) (K : PySem.W.Frag) (mg : Str → Option Value) (base : Heap) (k : Nat) (x : Str) (C : Addr) (n : Nat) (ks : List Str) (sp : Sp) : Prop where
  ex : ∃ (f : Addr) (fd : FuncData) (ps : List Str), Mk K C f ∧ FnOk P w K mg base CX0 k f fd ps sp ∧ mg x = some (.ref C) ∧ KBn K fd ps (n + 1) ks (fun us ws => us ++ ws) (fun vs zs => vs ++ zs)
theorem e_makeK {X : Cx} {k j n : Nat} {C : Addr} {ks : List Str} {sp : Sp} {x : Str} {p pos : Pos} {e : Expr} {es : List Expr} {kws : List Keyword} {t tk : TA} (c : MakK X.prog X.w X.K X.mg X.base k x C n ks sp) (hr : Room j X.A) (hk : k + 1 ≤ j) (hg : Gl X x) (ha : PA X (e :: es) t) (hkw : PK X kws tk)
    (hall : (backToKw pos (keywordEach kws X.env)).all (·.1.isSome) = true := by rfl) (hks : (backToKw pos (keywordEach kws X.env)).filterMap (·.1) = ks := by rfl) (hdb : (x == ("__debug__" : Str)) = false := by decide)
    (he : starEach (e :: es) X.env = (false, eval e X.env) :: starEach es X.env := by rfl) (hpl : ((backTo pos (starEach (e :: es) X.env)).any (·.1) || (backToKw pos (keywordEach kws X.env)).any (·.1.isNone)) = false := by rfl) :
    PE X (.Call (.Name x p) (e :: es) kws pos) (tMakeK C n ks.length sp (fun vs zs => vs ++ zs) C8.E0 t tk) := by
  obtain ⟨f, fd, ps, M, F, hm, b⟩ := c.ex
  exact pe_makeK M F (hr.mono hk) hg hm b pass0 ha hkw hall hks hdb he hpl
theorem star_rg {X : Cx} {pns : List (Addr × Obj)} {σ : L2.St} {H : Hp} {ss : Shared} {r : Addr} {a b : Int} {t u v : Tok} {E : Value → Shared → Prop} {Q : List Value → Shared → Prop} (J : Inv X pns σ H ss) (hc : X.calm = true) (hr : IsRange ss.heap r a b 1 t u v) (ok : RgOk a b)
    (hQ : ∀ us s', Inv X pns σ H s' → Vals (rgV a b) us → Q us s') : PySem.W.StarOf (model X.prog X.w) X.A E (.ref r) Q ss := by
  have hT : ss.TypeIs (.ref r) "range" := ⟨_, hr, rfl⟩
  obtain ⟨b1, b2, b3, b4, b5⟩ := ok
  have z : wpAny (model X.prog X.w) X.A (collect (.ref r)) Q E ss := collect_range (n := (b - a).toNat) (J.ok.hd hc) hr (small_one b1 b2 b3 b4) (rangeSize_nat a b) b5 fun h' tk acc hk hi => hQ acc.toList _ (J.kept hk) (vals_rg hi)
  unfold PySem.W.StarOf notIterableAtAll
  exact wpAny_bind (wpAny_specialOf hT PySem.F.slot_range_iter.lookup (wpAny_pure ⟨rfl, z⟩))
def tStarRg (te : L2.St → Hp → (Int → Int → Hp → Prop) → Prop) (t : TA) : TA := fun σ H Q => te σ H fun a b H1 => RgOk a b ∧ t σ H1 fun ys H2 => Q (rgV a b ++ ys) H2
theorem pa_starRg {X : Cx} {e : Expr} {es : List Expr} {te : L2.St → Hp → (Int → Int → Hp → Prop) → Prop} {t : TA} {p : Pos} (hc : X.calm = true) (he : PRg X e te) (hr : PA X es t) (hs : starEach (.Starred e p :: es) X.env = (true, eval e X.env) :: starEach es X.env := by rfl) : PA X (.Starred e p :: es) (tStarRg te t) := by
  refine ⟨fun pos pns ss σ H Q J h => ?_⟩
  refine PySem.W.items_star (thn (he pns ss σ H _ J h) fun v s1 ⟨r, a, b, t1, u1, v1, H1, ex, hrg, J1, ok, q⟩ => ?_) hs
  subst ex
  refine star_rg J1 hc hrg ok fun us s2 J2 rv => ?_
  exact thn (hr.run pos pns s2 σ H1 _ J2 q) fun ws s3 ⟨vs, H3, J3, r3, q3⟩ => ⟨_, H3, J3, rv.append r3, q3⟩
end Bk
/-! ### the text -/
namespace Bk
open PySem PySem.Spec PyProof.Rows L2
def top (i : Nat) : Stmt := PySem.Challenge.pw_bucketline_k33_whole_fires.main.body.getD i (.Pass ⟨0, 0, 0, 0⟩)
abbrev FnP (K : PySem.W.Frag) (x q : Str) (st : Stmt) (f : Addr) (fd : FuncData) : Prop := FunD K x q (defArgs st) (defBody st) (defScope st) [] [] f fd
structure Tx (mg : Str → Option Value) : Prop where
  f_TypeError : mg "TypeError" = none
  f_ValueError : mg "ValueError" = none
  f_abs : mg "abs" = none
  f_all : mg "all" = none
  f_any : mg "any" = none
  f_bool : mg "bool" = none
  f_classmethod : mg "classmethod" = none
  f_enumerate : mg "enumerate" = none
  f_int : mg "int" = none
  f_isinstance : mg "isinstance" = none
  f_len : mg "len" = none
  f_list : mg "list" = none
  f_max : mg "max" = none
  f_min : mg "min" = none
  f_property : mg "property" = none
  f_range : mg "range" = none
  f_str : mg "str" = none
  f_sum : mg "sum" = none
  f_tuple : mg "tuple" = none
  f_zip : mg "zip" = none
  g_LETTERS : ∃ u, mg "LETTERS" = some u ∧ RelV (.str "abcdefghijklmnopqrstuvwxyz") u
  g_MAX_LETTERS : ∃ u, mg "MAX_LETTERS" = some u ∧ RelV (.int 8) u
  g_MAX_BUCKET : ∃ u, mg "MAX_BUCKET" = some u ∧ RelV (.int 1000000000000000000) u
  g_MAX_FIRE : ∃ u, mg "MAX_FIRE" = some u ∧ RelV (.int 1000000000000000) u
  g_MAX_GROWTH : ∃ u, mg "MAX_GROWTH" = some u ∧ RelV (.int 1000000) u
  g_MAX_WATER : ∃ u, mg "MAX_WATER" = some u ∧ RelV (.int 1000000000) u
  g_DIGITS : ∃ u, mg "DIGITS" = some u ∧ RelV (.str "0123456789") u
  g_MAX_DIGITS : ∃ u, mg "MAX_DIGITS" = some u ∧ RelV (.int 4) u
end Bk
namespace Bk
open PySem PySem.Spec PyProof.Rows L2
theorem FnP_kb {K : PySem.W.Frag} {x q : Str} {st : Stmt} {f : Addr} {fd : FuncData} {ps : List Str} (n : Nat) (ks : List Str) (F : FnP K x q st f fd)
    (h : ∀ (kV doc pm : Value) (an : Option Addr) (cdv ct : Value) (us ws : List Value), us.length = n → ws.length = ks.length → bindArgs (PySem.W.fnOf x q (defArgs st) (defBody st) (defScope st) .none kV doc pm an cdv ct) ⟨us, ks.zip ws⟩ = pure (ps.zip (us ++ ws))) :
    KBn K fd ps n ks (fun us ws => us ++ ws) (fun vs zs => vs ++ zs) := by
  obtain ⟨oc, od, dV, kV, doc, pm, an, cdv, ct, osl, rfl, lk, hcd, hdv, hkw⟩ := F.ex
  have e : dV = .none := by
    rcases hdv with ⟨_, e⟩ | ⟨e, _⟩
    · exact e
    · exact absurd rfl e
  subst e
  exact ⟨fun _ us ws _ l1 l2 => .of_eq (h kV doc pm an cdv ct us ws l1 l2), fun r1 r2 => r1.append r2⟩
end Bk
/-! ### data: shapes, lists -/
namespace Bk
open PySem PySem.Spec PyProof.Rows L2
theorem ixN_of {n : Nat} {r : Int} (h0 : 0 ≤ r) (h1 : r < n) : ixN n r = some r.toNat := by
  unfold ixN
  rw [if_pos h0, if_pos h1]
theorem canLay_strs : ∀ l : List Str, (∀ x ∈ l, PyData.strOk x = true) → PyData.canLayAll0 (l.map PyData.str) = true
  | [], _ => rfl
  | x :: l, h => by
    show (PyData.canLay0 (.str x) && PyData.canLayAll0 (l.map PyData.str)) = true
    rw [canLay_strs l fun y hy => h y (by simp [hy])]
    have h1 : PyData.canLay0 (.str x) = true := h x (by simp)
    rw [h1]
    rfl
theorem depth_strs : ∀ l : List Str, PyData.depthAll (l.map PyData.str) = 0
  | [] => rfl
  | x :: l => by
    show max (PyData.depth (.str x)) (PyData.depthAll (l.map PyData.str)) = 0
    rw [depth_strs l]
    rfl
theorem shaped_strs {l : List Str} (h : ∀ x ∈ l, PyData.strOk x = true) : SeqAt.shaped (.list (l.map PyData.str)) = true := by
  unfold SeqAt.shaped
  have h1 : PyData.canLay0 (.list (l.map PyData.str)) = true := canLay_strs l h
  have h2 : PyData.depth (.list (l.map PyData.str)) = 1 := by
    show PyData.depthAll (l.map PyData.str) + 1 = 1
    rw [depth_strs]
  rw [h1, h2]
  rfl
theorem eqv_nil : ∀ ds : List PyData, PyData.eqv (.list ds) (.list []) = ds.isEmpty
  | [] => rfl
  | _ :: _ => rfl
theorem map_erase {α β : Type} (f : α → β) : ∀ (l : List α) (k : Nat), (l.map f).eraseIdx k = (l.eraseIdx k).map f
  | [], _ => rfl
  | _ :: _, 0 => rfl
  | a :: l, k + 1 => by
    show f a :: (l.map f).eraseIdx k = f a :: (l.eraseIdx k).map f
    rw [map_erase f l k]
theorem erase_perm {α : Type} : ∀ (l : List α) (k : Nat) (h : k < l.length), (l[k] :: l.eraseIdx k).Perm l
  | a :: l, 0, _ => List.Perm.refl _
  | a :: l, k + 1, h => by
    have h' : k < l.length := by simpa using h
    exact (List.Perm.swap _ _ _).trans ((erase_perm l k h').cons a)
def spLaw (K : PySem.W.Frag) : Sp := fun vs H Q _ => ∃ (a : Addr) (ns : List Int), vs = [.ref a] ∧ SqL K H a (ns.map V.int) ∧ ns.length ≤ 63 ∧ ∀ H', Q (.bl true) H'
theorem canLay_ints : ∀ l : List Int, PyData.canLayAll0 (l.map PyData.int) = true
  | [] => rfl
  | x :: l => by
    show (PyData.canLay0 (.int x) && PyData.canLayAll0 (l.map PyData.int)) = true
    rw [canLay_ints l]
    rfl
theorem depth_ints : ∀ l : List Int, PyData.depthAll (l.map PyData.int) = 0
  | [] => rfl
  | x :: l => by
    show max (PyData.depth (.int x)) (PyData.depthAll (l.map PyData.int)) = 0
    rw [depth_ints l]
    rfl
theorem shaped_ints (l : List Int) : SeqAt.shaped (.list (l.map PyData.int)) = true := by
  unfold SeqAt.shaped
  have h1 : PyData.canLay0 (.list (l.map PyData.int)) = true := canLay_ints l
  have h2 : PyData.depth (.list (l.map PyData.int)) = 1 := by
    show PyData.depthAll (l.map PyData.int) + 1 = 1
    rw [depth_ints]
  rw [h1, h2]
  rfl
end Bk
namespace L2
open PySem PySem.Spec PyProof.Rows
theorem walk_range0 {n : Nat} : Walk (Itr 0 n) n (fun _ => True) (YFn fun i => .int (i : Nat)) :=
  walk_range.mono (fun _ h => h) fun i H x H' _ _ y => ⟨y.1, y.2.trans (by show V.int (0 + (i : Int)) = _; rw [Int.zero_add])⟩
end L2
namespace Bk
open PySem PySem.Spec PyProof.Rows L2
/-- data of lists and tuples, at most n deep, that may be compared -/
def Lay : Nat → PyData → Prop
  | _, .none => True
  | _, .bool _ => True
  | _, .int _ => True
  | _, .str s => PyData.strOk s = true
  | 0, .list _ => False
  | 0, .tuple _ => False
  | n + 1, .list xs => ∀ x ∈ xs, Lay n x
  | n + 1, .tuple xs => ∀ x ∈ xs, Lay n x
  | _, .dict _ => False
theorem lay_ok : ∀ (n : Nat) (d : PyData), Lay n d → PyData.canLay0 d = true ∧ PyData.depth d ≤ n := by
  have all : ∀ n : Nat, (∀ d : PyData, Lay n d → PyData.canLay0 d = true ∧ PyData.depth d ≤ n) → ∀ xs : List PyData, (∀ x ∈ xs, Lay n x) → PyData.canLayAll0 xs = true ∧ PyData.depthAll xs ≤ n := by
    intro n ih xs
    induction xs with
    | nil => intro _; exact ⟨rfl, Nat.zero_le _⟩
    | cons x xs ihx =>
      intro h
      obtain ⟨h1, h2⟩ := ih x (h x (by simp))
      obtain ⟨h3, h4⟩ := ihx fun y hy => h y (by simp [hy])
      refine ⟨?_, ?_⟩
      · show (PyData.canLay0 x && PyData.canLayAll0 xs) = true
        rw [h1, h3]
        rfl
      · show max (PyData.depth x) (PyData.depthAll xs) ≤ n
        omega
  intro n
  induction n with
  | zero =>
    intro d h
    cases d with
    | none => exact ⟨rfl, Nat.zero_le _⟩
    | bool b => exact ⟨rfl, Nat.zero_le _⟩
    | int i => exact ⟨rfl, Nat.zero_le _⟩
    | str s => exact ⟨h, Nat.zero_le _⟩
    | list xs => exact absurd h (by simp [Lay])
    | tuple xs => exact absurd h (by simp [Lay])
    | dict xs => exact absurd h (by simp [Lay])
  | succ n ih =>
    intro d h
    cases d with
    | none => exact ⟨rfl, Nat.zero_le _⟩
    | bool b => exact ⟨rfl, Nat.zero_le _⟩
    | int i => exact ⟨rfl, Nat.zero_le _⟩
    | str s => exact ⟨h, Nat.zero_le _⟩
    | list xs =>
      obtain ⟨h1, h2⟩ := all n ih xs h
      exact ⟨h1, by show PyData.depthAll xs + 1 ≤ n + 1; omega⟩
    | tuple xs =>
      obtain ⟨h1, h2⟩ := all n ih xs h
      exact ⟨h1, by show PyData.depthAll xs + 1 ≤ n + 1; omega⟩
    | dict xs => exact absurd h (by simp [Lay])
theorem lay_sh {n : Nat} {d : PyData} (hn : n ≤ 64) (h : Lay n d) : SeqAt.shaped d = true := by
  obtain ⟨h1, h2⟩ := lay_ok n d h
  unfold SeqAt.shaped
  rw [h1, decide_eq_true (Nat.le_trans h2 hn)]
  rfl
def pyI (l : List Int) : PyData := .list (l.map PyData.int)
theorem lay_pyI (l : List Int) : Lay 1 (pyI l) := fun x hx => by
  obtain ⟨i, _, rfl⟩ := List.mem_map.mp hx
  trivial
theorem lay_rows (ls : List (List Int)) : Lay 2 (.list (ls.map pyI)) := fun x hx => by
  obtain ⟨l, _, rfl⟩ := List.mem_map.mp hx
  exact lay_pyI l
/-- the greater of two -/
theorem two_max {x y m : Int} (h : m ∈ [x, y]) (h2 : ∀ z ∈ [x, y], z ≤ m) : m = if y > x then y else x := by
  have h3 := h2 x (by simp)
  have h4 := h2 y (by simp)
  have h5 : m = x ∨ m = y := by simpa using h
  split <;> omega
theorem two_min {x y m : Int} (h : m ∈ [x, y]) (h2 : ∀ z ∈ [x, y], m ≤ z) : m = if y < x then y else x := by
  have h3 := h2 x (by simp)
  have h4 := h2 y (by simp)
  have h5 : m = x ∨ m = y := by simpa using h
  split <;> omega
theorem dps_of {K : PySem.W.Frag} {H : Hp} : ∀ {vs : List V} {ds : List PyData}, vs.length = ds.length → (∀ (i : Nat) (v : V) (d : PyData), vs[i]? = some v → ds[i]? = some d → Dp K H v d) → DpAll K H vs ds
  | [], [], _, _ => .nil
  | [], _ :: _, h, _ => absurd h (by simp)
  | _ :: _, [], h, _ => absurd h (by simp)
  | v :: vs, d :: ds, h, k => .cons (k 0 v d rfl rfl) (dps_of (by simpa using h) fun i v' d' h1 h2 => k (i + 1) v' d' (by simpa using h1) (by simpa using h2))
end Bk
/-! ### names, lines -/
namespace Bk
open PySem PySem.Spec PyProof.Rows L2
def letters : List Nat := ("abcdefghijklmnopqrstuvwxyz" : Str).cps.toList
def isName (s : Str) : Bool := decide ((1 : Int) ≤ s.length) && (decide ((s.length : Int) ≤ 8) && s.cps.toList.all fun c => decide (c ∈ letters))
abbrev Person := Str × Int
def pyP (p : Person) : PyData := .tuple [.str p.1, .int p.2]
def pyPs (ps : List Person) : List PyData := ps.map pyP
structure Valid (ps : List Person) : Prop where
  lo : 2 ≤ ps.length
  hi : ps.length ≤ 12
  nd : (ps.map (·.1)).Nodup
  nm : ∀ p ∈ ps, isName p.1 = true
  pc : ∀ p ∈ ps, 1 ≤ p.2 ∧ p.2 ≤ 1000
structure LineT (K : PySem.W.Frag) (mg : Str → Option Value) (C : Addr) : Prop where
  g : ∃ u, mg "Line" = some u ∧ RelV (.ref C) u
  cl : Cls K C
  nC : NoAttr K C "crew"
  mc : ∃ mc, ClX.CRead K C mc ∧ (∃ u, ClX.CVal K C mc "MAX_PEOPLE" (.int 12) u) ∧ ∃ u, ClX.CVal K C mc "MAX_PACE" (.int 1000) u
def spIsName : Sp := fun vs H Q _ => ∃ s : Str, vs = [.str s] ∧ s.length ≤ 100000 ∧ ∀ b H', b = isName s → Same H H' → Q (.bl b) H'
def spLineB (K : PySem.W.Frag) (C : Addr) : Sp := fun vs H Q _ => ∃ (a dx p : Addr) (xs : List V) (ps : List Person), vs = [.ref a, .ref p] ∧ H a = some (.ins C dx []) ∧ H p = some (.tup xs) ∧ DpAll K H xs (pyPs ps) ∧ Valid ps ∧
  ∀ H', Same (delH H a) H' → H' a = some (.ins C dx [("crew", .ref p)]) → Q .non H'
theorem strs_flat : ∀ l : List Str, (l.map V.str).all flatV = true
  | [] => rfl
  | _ :: l => by simpa [flatV] using strs_flat l
theorem inV_strs (x : Str) (l : List Str) : inV (.str x) (l.map V.str) = decide (x ∈ l) := by
  unfold inV
  induction l with
  | nil => rfl
  | cons y l ih =>
    rw [List.map_cons, List.any_cons, ih]
    by_cases h : y = x
    · subst h
      simp [eqV]
    · have h' : x ≠ y := fun z => h z.symm
      simp [eqV, h, h']
def spLineR (K : PySem.W.Frag) (C : Addr) : Sp := fun vs H Q E => ∃ ws rest, vs = ws ++ rest ∧ ws.length = ["self"].length ∧ rest.length ≤ sizeLine ∧ ∀ p, H p = Option.none → spLineB K C (ws ++ [V.ref p]) (upd H p (.tup rest)) Q E
theorem crew_lookup {p : Addr} : List.lookup ("crew" : Str) [(("crew" : Str), V.ref p)] = some (.ref p) := by simp [List.lookup]
/-- a line: its people -/
def IsLine (K : PySem.W.Frag) (C : Addr) (H : Hp) (v : V) (ps : List Person) : Prop := ∃ a dx p xs, v = .ref a ∧ H a = some (.ins C dx [("crew", .ref p)]) ∧ H p = some (.tup xs) ∧ DpAll K H xs (pyPs ps)
theorem IsLine.same {K : PySem.W.Frag} {C : Addr} {H H' : Hp} {v : V} {ps : List Person} (h : IsLine K C H v ps) (e : Same H H') : IsLine K C H' v ps := by
  obtain ⟨a, dx, p, xs, h1, h2, h3, h4⟩ := h
  exact ⟨a, dx, p, xs, h1, e _ _ h2, e _ _ h3, h4.same e⟩
/-- Line(*people) -/
theorem mk_line {K : PySem.W.Frag} {C : Addr} {H : Hp} {xs : List V} {ps : List Person} {Q : VK} {E : XK} (hd : DpAll K H xs (pyPs ps)) (hV : Valid ps) (k : ∀ H' v, Same H H' → IsLine K C H' v ps → Q v H') :
    ∀ x dx, H x = Option.none → H dx = Option.none → dx ≠ x → spLineR K C (V.ref x :: xs) (upd (upd H dx (.own x)) x (.ins C dx [])) (fun v H2 => v = .non ∧ Q (.ref x) H2) E := by
  intro x dx hx hdx hne
  have hl : xs.length = ps.length := by rw [hd.len]; unfold pyPs; simp
  have s1 : Same H (upd (upd H dx (.own x)) x (.ins C dx [])) := same_mut (same_new hdx) hx
  refine ⟨[.ref x], xs, rfl, rfl, sz (by have := hV.hi; omega), fun p hp => ?_⟩
  have s2 : Same H (upd (upd (upd H dx (.own x)) x (.ins C dx [])) p (.tup xs)) := s1.trans (same_new hp)
  have hpx : p ≠ x := fun z => by rw [z, upd_same] at hp; cases hp
  refine ⟨x, dx, p, xs, ps, rfl, by rw [upd_ne (Ne.symm hpx)]; exact upd_same, upd_same, hd.same s2, hV, fun H' s3 h' => ⟨rfl, ?_⟩⟩
  have s4 : Same H H' := fun b o e => s3 b o (by rw [delH_ne (ne_of_none e hx)]; exact s2 b o e)
  refine k H' (.ref x) s4 ⟨x, dx, p, xs, rfl, h', s3 p _ (by rw [delH_ne hpx]; exact upd_same), hd.same s4⟩
section
variable {P : Program} {w : World} {K : PySem.W.Frag} {mg : Str → Option Value} {base : Heap} {C : Addr}
abbrev s_is_name : Stmt := top 12
theorem sc_is_name : FnScope ["name", "letter"] ["name"] (defScope s_is_name) := ⟨rfl, rfl, rfl, by decide +kernel, rfl, by decide +kernel, by decide +kernel⟩

theorem ok_is_name {f : Addr} {fd : FuncData} (F : FnP K "is_name" "is_name" s_is_name f fd) (T : Tx mg) : FnOk P w K mg base CX0 1 f fd ["name"] spIsName := by
  refine F.ok sc_is_name (fun vs H Q E h => ?_) (fun cdv A outer s H vs Q E hr h => ?_)
  · obtain ⟨d, rfl, _⟩ := h
    rfl
  · obtain ⟨z, rfl, hz, k⟩ := h
    refine ⟨_, PSs.nox 
      (pss_one (ps_ret (pe_and (pe_chain op_le op_le pe_int (pe_callB call_len_str (by rfl) T.f_len PySem.boot_len (pa_cons (pv 0) pa_nil)) (C8.pe_gc rfl T.g_MAX_LETTERS)) (pe_one (pe_callB (c_all K rfl) (by rfl) T.f_all (by decide +kernel) (pa_cons (pe_lc (own := [("letter", 1)]) rfl sc_is_name.nd (pi_str (pv 0)) (blkOk_by (own := [("letter", 1)]) (N := ["name", "letter"]) (sc := defScope s_is_name) (by decide +kernel)) (fun _ _ _ _ _ => (pg_name (i := 1) sc_is_name.nd rfl (Or.inl rfl))) (fun _ _ _ _ _ => pts_nil) (fun _ _ _ _ _ => (pe_cmpR op_in_sign (pv 1) (C8.pe_gc rfl T.g_LETTERS) rfl))) pa_nil)))))), ?_⟩
    refine ⟨_, rfl, z, rfl, sz hz, _, _, rfl, rfl, _, rfl, ?_⟩
    refine iteD (fun h0 => ?_) (fun h0 => ?_)
    · refine ⟨_, _, rfl, rfl, _, rfl, ?_⟩
      refine iteD (fun h1 => ?_) (fun h1 => ?_)
      · refine ⟨_, rfl, z, rfl, fun D hD => ?_⟩
        refine lc_it (walk_str (z := z)) (fun i G => G = upd H D (.lst ((z.cps.toList.take i).map fun c => V.bl (decide (c ∈ letters))))) rfl (fun _ _ _ _ => trivial) ?_ ?_
        · rintro i x G G' hi rfl ⟨rfl, c, hc, rfl⟩
          refine ⟨rfl, _, rfl, c, _, rfl, rfl, _, upd_same, ?_, ?_⟩
          · rw [List.length_map]
            refine szl (Nat.lt_of_le_of_lt (List.length_take_le _ _) ?_)
            have : z.length = z.cps.size := rfl
            omega
          · rw [upd_upd]
            have hc' : z.cps.toList[i]? = some c := by simpa using hc
            rw [List.take_add_one, hc']
            simp [letters]
        · rintro G rfl
          refine ⟨D, (z.cps.toList.map fun c => decide (c ∈ letters)), rfl, SqL.of (by rw [upd_same, List.map_map, show z.cps.size = z.cps.toList.length by simp, List.take_length]; rfl), ?_⟩
          refine k _ _ ?_ (same_new hD)
          unfold isName
          rw [decide_eq_true h0, decide_eq_true h1]
          simp [Function.comp_def]
      · exact k _ _ (by unfold isName; rw [decide_eq_false h1]; simp) (Same.refl _)
    · refine ⟨_, rfl, ?_⟩
      exact k _ _ (by unfold isName; rw [decide_eq_false h0]; simp) (Same.refl _)
abbrev s_Line___init__ : Stmt := inClass (top 14) 2
theorem sc_Line___init__ : FnScope ["self", "people", "index", "name", "pace", "earlier", "other"] ["self", "people"] (defScope s_Line___init__) := ⟨rfl, rfl, rfl, by decide +kernel, rfl, by decide +kernel, by decide +kernel⟩

theorem pyPs_get {ps : List Person} {i : Nat} {d : PyData} (h : (pyPs ps)[i]? = some d) : ∃ p, ps[i]? = some p ∧ d = pyP p := by
  unfold pyPs at h
  rw [List.getElem?_map] at h
  cases e : ps[i]? with
  | none => rw [e] at h; cases h
  | some p => rw [e] at h; exact ⟨p, rfl, (Option.some.inj h).symm⟩
theorem dp_person {H : Hp} {v : V} {p : Person} (h : Dp K H v (pyP p)) : ∃ a, v = .ref a ∧ SqT K H a [.str p.1, .int p.2] := by
  obtain ⟨a, xs, rfl, hs, ha⟩ := dp_tup h
  cases ha with
  | cons h1 h2 =>
    cases h2 with
    | cons h3 h4 =>
      cases h4
      cases h1
      cases h3
      exact ⟨a, rfl, hs⟩
theorem ok_LineInit {f : Addr} {fd : FuncData} (F : FnP K "__init__" "Line.__init__" s_Line___init__ f fd) (T : Tx mg) (L : LineT K mg C) (cName : C8.Cal P w K mg base 1 "is_name" spIsName []) :
    FnR P w K mg base CX0 2 f (spLineR K C) := by
  obtain ⟨oc, od, dV, kV, doc, pm, an, cdv, ct, osl, rfl, lk, hcd, hdv, hkw⟩ := F.ex
  have hdV : dV = .none := by
    rcases hdv with ⟨_, e⟩ | ⟨e, _⟩
    · exact e
    · exact absurd rfl e
  subst hdV
  refine StX.fn_star (N := ["self", "people", "index", "name", "pace", "earlier", "other"]) (ps := ["self"]) (pv := "people") lk hcd sc_Line___init__ StX.cxUp_none (StX.bind_star1 (B := fun us => bindArgs (PySem.W.fnOf "__init__" "Line.__init__" (defArgs s_Line___init__) (defBody s_Line___init__) (defScope s_Line___init__) .none kV doc pm an cdv ct) ⟨us, []⟩) (fun a => rfl) (fun a r rs => rfl)) fun A outer s H vs Q E hr h => ?_
  obtain ⟨a, dx, p, xs, ps, rfl, ha, hp, hd, hV, k⟩ := h
  refine ⟨_, PSs.nox 
      (pss_cons (ps_for PassesOwn.never rfl (pi_enumT (by rfl) T.f_enumerate (pa_cons (pv 1) pa_nil)) (g_tup K 2 rfl (pgs_cons (pg_name (i := 2) sc_Line___init__.nd rfl (Or.inl rfl)) (pgs_cons (g_tup K 2 rfl (pgs_cons (pg_name (i := 3) sc_Line___init__.nd rfl (Or.inl rfl)) (pgs_cons (pg_name (i := 4) sc_Line___init__.nd rfl (Or.inl rfl)) pgs_nil))) pgs_nil))) 
        (pss_cons (ps_setLc (i := 5) (own := [("other", 6)]) rfl sc_Line___init__.nd rfl rfl (sw_true rfl rfl rfl (by decide +kernel)) (iT K (pe_slice (slT K) (pv 1) po_none (po_some (pv 2)))) (blkOk_by (own := [("other", 6)]) (N := ["self", "people", "index", "name", "pace", "earlier", "other"]) (sc := defScope s_Line___init__) (by decide +kernel)) (fun _ _ _ _ _ => (pg_name (i := 6) sc_Line___init__.nd rfl (Or.inl rfl))) (fun _ _ _ _ _ => pts_nil) (fun _ _ _ _ _ => (pe_ix (ixT K) (pv 6) pe_int (fun _ _ => rfl))))
        (pss_one (ps_if (PW.pt (pw_or (pt_cmpR op_eq (pv 2) (e_cval K (C8.pe_gc rfl L.g)) (nomark _)) (pw_or (pt_not (pt_val (C8.pe_c cName hr (by decide) rfl (pa_cons (pv 3) pa_nil)))) (pw_or (pt_not (pt_chain op_le op_le pe_int (pv 4) (e_cval K (C8.pe_gc rfl L.g)))) (pw_or1 (pt_cmpR (o_in K) (pv 3) (pv 5) rfl)))))) 
          (pss_one ps_never) pss_nil))))
      (pss_cons (ps_if (pt_cmpR op_lt (pe_callB (c_len K) (by rfl) T.f_len PySem.boot_len (pa_cons (pv 1) pa_nil)) pe_int (nomark _)) 
        (pss_one ps_never) pss_nil)
      (pss_one (ps_fld (pv 0) (pv 1) rfl)))), ?_⟩
  obtain ⟨mc, cr, ⟨u1, cv1⟩, ⟨u2, cv2⟩⟩ := L.mc
  have hlen : xs.length = ps.length := by rw [hd.len]; unfold pyPs; simp
  have hpa : p ≠ a := ne_of hp ha (by intro z; cases z)
  have hpT : SqT K H p xs := SqT.of' hp
  refine ⟨_, rfl, p, xs, rfl, hpT, for_it (walk_enumT (K := K) (a := p) (ys0 := xs)) (fun i σ H' => ∃ v1 v2 v3 v4 : Option V, σ = [some (.ref a), some (.ref p), v1, v2, v3, v4, none] ∧ Same H H') ⟨none, none, none, none, rfl, Same.refl _⟩ ?_ ?_ ?_⟩
  · rintro i σ H' _ ⟨_, _, _, _, _, s1⟩
    exact s1.seqT hpT
  · rintro i x σ H' H2 hi ⟨v1, v2, v3, v4, rfl, s1⟩ ⟨t, _, y, rfl, ht, rfl, ei, hy⟩
    cases ei
    obtain ⟨d, hd1, hd2⟩ := hd.get hy
    obtain ⟨q, hq, rfl⟩ := pyPs_get hd1
    obtain ⟨b, rfl, hb⟩ := dp_person hd2
    have s2 : Same H (upd H' t (.tup [.int (i : Nat), .ref b])) := s1.trans (same_new ht)
    have hiL : i < ps.length := by omega
    refine ⟨t, _, rfl, SqT.of' upd_same, rfl, _, _, rfl, _, _, rfl, b, _, rfl, s2.seqT hb, rfl, _, _, rfl, _, _, rfl, rfl, rfl, ?_⟩
    refine ⟨_, rfl, _, rfl, _, rfl, p, xs, rfl, s2.seqT hpT, ?_, fun z hz => ?_⟩
    · rw [HT.sIx_nat]
      omega
    have s3 : Same H (upd (upd H' t (.tup [.int (i : Nat), .ref b])) z (.tup (cutV xs none (some ((i : Nat) : Int))))) := s2.trans (same_new hz)
    refine ⟨z, rfl, ⟨_, SqT.of' upd_same⟩, fun D hD => ?_⟩
    rw [cut_to (by omega)] at hD s3 ⊢
    have hL : (xs.take i).length = i := by rw [List.length_take]; omega
    refine lc_it (walk_tup (K := K) (a := z) (xs := xs.take i)) (fun j G => G = upd (upd (upd H' t (.tup [.int (i : Nat), .ref b])) z (.tup (xs.take i))) D (.lst (((ps.map (·.1)).take j).map V.str))) rfl ?_ ?_ ?_
    · rintro j G _ rfl
      exact (same_new hD).seqT (SqT.of' upd_same)
    · rintro j x G G' hj rfl ⟨rfl, hx⟩
      rw [hL] at hj
      have hx' : xs[j]? = some x := by
        rw [List.getElem?_take, if_pos hj] at hx
        exact hx
      obtain ⟨d, hd1, hd2⟩ := hd.get hx'
      obtain ⟨q', hq', rfl⟩ := pyPs_get hd1
      obtain ⟨b', rfl, hb'⟩ := dp_person hd2
      refine ⟨rfl, _, rfl, b', _, 0, _, rfl, rfl, (s3.trans (same_new hD)).seqT hb', at_0, _, upd_same, ?_, ?_⟩
      · rw [List.length_map]
        refine szl (Nat.lt_of_le_of_lt (List.length_take_le _ _) ?_)
        have := hV.hi
        omega
      · rw [upd_upd, List.take_add_one, List.getElem?_map, hq']
        simp
    · rintro G rfl
      rw [hL]
      have s4 := s3.trans (same_new (o := .lst (((ps.map (·.1)).take i).map V.str)) hD)
      have hqm : q ∈ ps := List.mem_of_getElem? hq
      have nn : isName q.1 = true := hV.nm q hqm
      have pp := hV.pc q hqm
      refine ⟨_, rfl, C, mc, _, u1, rfl, cr, cv1, rfl, _, rfl, ?_⟩
      refine iteD (fun h0 => ?_) (fun h0 => ?_)
      · have := vint.mp h0
        have := hV.hi
        omega
      refine ⟨_, rfl, q.1, rfl, ?_, fun bb H5 eb s5 => ?_⟩
      · have h8 : isName q.1 = true := nn
        unfold isName at h8
        simp only [Bool.and_eq_true, decide_eq_true_eq] at h8
        omega
      rw [nn] at eb
      subst eb
      refine ⟨_, rfl, iteF ?_⟩
      refine ⟨_, rfl, _, _, rfl, rfl, _, rfl, ?_⟩
      rw [decide_eq_true pp.1]
      refine iteT ⟨C, mc, _, u2, rfl, cr, cv2, _, _, rfl, rfl, _, rfl, ?_⟩
      rw [decide_eq_true pp.2]
      refine iteF ?_
      refine ⟨_, rfl, _, rfl, D, _, rfl, .inl (s5.seq (SqL.of upd_same)), rfl, strs_flat _, _, rfl, ?_⟩
      have hin : inV (.str q.1) (((ps.map (·.1)).take i).map V.str) = false := by
        rw [inV_strs]
        refine decide_eq_false fun hm => ?_
        have hnd := hV.nd
        rw [← List.take_append_drop i (ps.map (·.1))] at hnd
        refine List.nodup_append.mp hnd |>.2.2 q.1 hm q.1 ?_ rfl
        have e : (ps.map (·.1))[i]? = some q.1 := by rw [List.getElem?_map, hq]; rfl
        rw [List.drop_eq_getElem_cons (by rw [List.length_map]; exact hiL)]
        rw [List.getElem?_eq_getElem (by rw [List.length_map]; exact hiL)] at e
        rw [Option.some.inj e]
        exact List.mem_cons_self
      rw [hin]
      refine iteF ?_
      exact ⟨_, _, _, _, rfl, s4.trans s5⟩
  · rintro σ H' ⟨v1, v2, v3, v4, rfl, s1⟩
    refine ⟨_, rfl, p, xs, rfl, .inr (s1.seqT hpT), _, _, rfl, rfl, _, rfl, ?_⟩
    rw [decide_eq_false (by have := hV.lo; omega)]
    refine iteF ?_
    refine ⟨_, rfl, _, rfl, a, C, dx, [], rfl, s1 _ _ ha, L.cl, L.nC, (by show 0 < 1000; decide), ?_⟩
    refine k _ (fun b o e => ?_) upd_same
    have nb : b ≠ a := fun z => by rw [z, delH_same] at e; cases e
    rw [delH_ne nb] at e
    rw [upd_ne nb]
    exact s1 _ _ e
end
end Bk
/-! ### numbers, texts of lines -/
namespace Bk
open PySem PySem.Spec PyProof.Rows L2
def digits : List Nat := ("0123456789" : Str).cps.toList
def isNum (s : Str) (n : Int) : Bool := (decide ((1 : Int) ≤ s.length) && (decide ((s.length : Int) ≤ n) && s.cps.toList.all fun c => decide (c ∈ digits))) && (decide (V.int s.length = V.int 1) || !decide (V.str ⟨#[s.cps.toList.headD 0]⟩ = V.str "0"))
def spIsNum : Sp := fun vs H Q _ => ∃ (s : Str) (n : Int), vs = [.str s, .int n] ∧ s.length ≤ 100000 ∧ ∀ b H', b = isNum s n → Same H H' → Q (.bl b) H'
def numS (n : Int) : Str := Str.ofString (toString n)
def rowOf (p : Person) : Str := p.1 ++ (" " : Str) ++ numS p.2
def wordsOf (ps : List Person) : Str := Txt.join "\n" (ps.map rowOf)
theorem isName_letters {s : Str} (h : isName s = true) : ∀ c ∈ TL.tl s, 97 ≤ c ∧ c ≤ 122 := by
  unfold isName at h
  simp only [Bool.and_eq_true, List.all_eq_true, decide_eq_true_eq] at h
  intro c hc
  have h2 : c ∈ letters := h.2.2 c hc
  have h3 : letters.all (fun c => decide (97 ≤ c ∧ c ≤ 122)) = true := by decide +kernel
  exact of_decide_eq_true (List.all_eq_true.mp h3 c h2)
theorem isName_len {s : Str} (h : isName s = true) : 1 ≤ s.length ∧ s.length ≤ 8 := by
  unfold isName at h
  simp only [Bool.and_eq_true, decide_eq_true_eq] at h
  omega
theorem numS_nat (n : Nat) : TL.tl (numS (n : Int)) = TL.numL n := TL.tl_num n
theorem numL_len4 {n : Nat} (h : n ≤ 1000) : (TL.numL n).length ≤ 4 := TL.numL_len (by decide) (Nat.lt_of_le_of_lt h (by decide))
theorem pace_nat {p : Person} (h : 1 ≤ p.2 ∧ p.2 ≤ 1000) : ∃ n : Nat, p.2 = (n : Int) ∧ 1 ≤ n ∧ n ≤ 1000 := ⟨p.2.toNat, by omega, by omega, by omega⟩
theorem tl_sp : TL.tl (" " : Str) = [32] := by decide +kernel
theorem tl_nl : TL.tl ("\n" : Str) = [10] := by decide +kernel
theorem tl_row {p : Person} {n : Nat} (h : p.2 = (n : Int)) : TL.tl (rowOf p) = TL.tl p.1 ++ ([32] ++ TL.numL n) := by
  unfold rowOf
  rw [TL.tl_append, TL.tl_append, h, numS_nat, tl_sp, List.append_assoc]
theorem row_free {p : Person} (h : isName p.1 = true) (h2 : 1 ≤ p.2 ∧ p.2 ≤ 1000) : 10 ∉ TL.tl (rowOf p) := by
  obtain ⟨n, e, h3, h4⟩ := pace_nat h2
  rw [tl_row e]
  intro hm
  rcases List.mem_append.mp hm with hm | hm
  · have := isName_letters h _ hm
    omega
  · rcases List.mem_append.mp hm with hm | hm
    · simp at hm
    · exact TL.numL_free (.inl (by decide)) hm
theorem split_rows {ps : List Person} (hV : Valid ps) : Txt.split (wordsOf ps) "\n" = ps.map rowOf := by
  unfold wordsOf
  refine TL.split_join (s := 10) (S := []) tl_nl (by decide +kernel) ?_ ?_
  · intro e
    have := hV.lo
    rw [List.map_eq_nil_iff.mp e] at this
    simp at this
  · intro r hr
    obtain ⟨p, hp, rfl⟩ := List.mem_map.mp hr
    exact row_free (hV.nm p hp) (hV.pc p hp)
theorem split_row {p : Person} (h : isName p.1 = true) (h2 : 1 ≤ p.2 ∧ p.2 ≤ 1000) : Txt.split (rowOf p) " " = [p.1, numS p.2] := by
  obtain ⟨n, e, h3, h4⟩ := pace_nat h2
  have e1 : rowOf p = Txt.join " " [p.1, numS p.2] := by
    refine TL.ext_tl ?_
    rw [TL.join_eq, TL.tl_join, tl_row e, tl_sp]
    show _ = TL.tl p.1 ++ ([32] ++ TL.tl (numS p.2))
    rw [e, numS_nat]
  rw [e1]
  refine TL.split_join (s := 32) (S := []) tl_sp (by decide +kernel) (by simp) ?_
  intro r hr
  rcases List.mem_cons.mp hr with rfl | hr
  · intro hm
    have := isName_letters h _ hm
    omega
  · rw [List.mem_singleton.mp hr, e, numS_nat]
    exact TL.numL_free (.inl (by decide))
theorem numS_len {p : Person} (h2 : 1 ≤ p.2 ∧ p.2 ≤ 1000) : (numS p.2).length ≤ 4 := by
  obtain ⟨n, e, h3, h4⟩ := pace_nat h2
  rw [TL.len_tl, e, numS_nat]
  exact numL_len4 h4
theorem rowT_len {p : Person} (h : isName p.1 = true) (h2 : 1 ≤ p.2 ∧ p.2 ≤ 1000) : (rowOf p).length ≤ 13 := by
  obtain ⟨n, e, h3, h4⟩ := pace_nat h2
  rw [TL.len_tl, tl_row e, List.length_append, List.length_append]
  have := isName_len h
  have := numL_len4 h4
  have := TL.len_tl p.1
  show (TL.tl p.1).length + (1 + (TL.numL n).length) ≤ 13
  omega
theorem int_numS {p : Person} (h2 : 1 ≤ p.2 ∧ p.2 ≤ 1000) : PySem.intText? (numS p.2) = some p.2 := by
  obtain ⟨n, e, h3, h4⟩ := pace_nat h2
  rw [e]
  exact TL.int_num (Nat.le_trans (numL_len4 h4) (by decide))
theorem numL_head {n : Nat} (h1 : 1 ≤ n) (h2 : n ≤ 1000) : 49 ≤ (TL.numL n).headD 0 := by
  by_cases a : n < 10
  · rw [TL.numL_lt a]
    show 49 ≤ 48 + n
    omega
  · by_cases b : n < 100
    · rw [TL.numL_step (by omega), TL.numL_lt (n := n / 10) (by omega)]
      show 49 ≤ 48 + n / 10
      omega
    · by_cases c : n < 1000
      · rw [TL.numL_step (by omega), TL.numL_step (n := n / 10) (by omega), TL.numL_lt (n := n / 10 / 10) (by omega)]
        show 49 ≤ 48 + n / 10 / 10
        omega
      · have : n = 1000 := by omega
        subst this
        decide +kernel
theorem isNum_pace {p : Person} (h2 : 1 ≤ p.2 ∧ p.2 ≤ 1000) : isNum (numS p.2) 4 = true := by
  obtain ⟨n, e, h3, h4⟩ := pace_nat h2
  have tl4 := numS_nat n
  have l4 := numL_len4 h4
  have l0 : 1 ≤ (TL.numL n).length := by
    cases q : TL.numL n with
    | nil => exact absurd q (TL.numL_ne n)
    | cons _ _ => simp
  have el : (numS (n : Int)).length = (TL.numL n).length := by rw [TL.len_tl, tl4]
  have hd := numL_head h3 h4
  unfold isNum
  rw [e, el, show (numS (n : Int)).cps.toList = TL.numL n from tl4]
  have hall : ((TL.numL n).all fun c => decide (c ∈ digits)) = true := by
    rw [List.all_eq_true]
    intro c hc
    have h5 := TL.numL_digits n c hc
    have h6 : 48 ≤ c ∧ c ≤ 57 := h5
    have h7 : ∀ c : Nat, c < 58 → 48 ≤ c → decide (c ∈ digits) = true := by decide +kernel
    exact h7 c (by omega) h6.1
  rw [hall]
  have hne : ¬ V.str ⟨#[(TL.numL n).headD 0]⟩ = V.str "0" := by
    intro h
    have h8 := vstr.mp h
    have h9 : TL.tl ⟨#[(TL.numL n).headD 0]⟩ = TL.tl ("0" : Str) := by rw [h8]
    have h10 : TL.tl ("0" : Str) = [48] := by decide +kernel
    rw [h10] at h9
    have h11 : [(TL.numL n).headD 0] = [48] := h9
    have h12 := (List.cons.inj h11).1
    omega
  rw [decide_eq_false hne, decide_eq_true (show (1 : Int) ≤ (((TL.numL n).length : Nat) : Int) by omega), decide_eq_true (show (((TL.numL n).length : Nat) : Int) ≤ 4 by omega)]
  simp
theorem words_len {ps : List Person} (hV : Valid ps) : (wordsOf ps).length ≤ 1000 := by
  unfold wordsOf
  rw [TL.join_eq, TL.len_tl, TL.tl_join, tl_nl]
  have gen : ∀ ls : List (List Nat), (∀ l ∈ ls, l.length ≤ 13) → (TL.joinL [10] ls).length ≤ ls.length * 14 := by
    intro ls
    induction ls with
    | nil => intro _; simp [TL.joinL]
    | cons l ls ih =>
      intro h
      have h1 := h l (by simp)
      have h2 := ih fun x hx => h x (by simp [hx])
      cases ls with
      | nil => simp [TL.joinL]; omega
      | cons m ms =>
        show (l ++ ([10] ++ TL.joinL [10] (m :: ms))).length ≤ _
        rw [List.length_append, List.length_append]
        simp only [List.length_cons, List.length_nil] at h2 ⊢
        omega
  have h := gen ((ps.map rowOf).map TL.tl) (by
    intro l hl
    obtain ⟨r, hr, rfl⟩ := List.mem_map.mp hl
    obtain ⟨p, hp, rfl⟩ := List.mem_map.mp hr
    rw [← TL.len_tl]
    exact rowT_len (hV.nm p hp) (hV.pc p hp))
  rw [List.length_map, List.length_map] at h
  have := hV.hi
  omega
end Bk
namespace Bk
open PySem PySem.Spec PyProof.Rows L2
/-- Line(*e) -/
def MkL (P : Program) (w : World) (K : PySem.W.Frag) (mg : Str → Option Value) (base : Heap) (C : Addr) : Prop := ∃ fL, Mk K C fL ∧ FnR P w K mg base CX0 2 fL (spLineR K C) ∧ mg "Line" = some (.ref C)
theorem pe_line {X : Cx} {C : Addr} {j : Nat} {e : Expr} {te : TE} {p sp_ pos : Pos} (m : MkL X.prog X.w X.K X.mg X.base C) (hr : Room j X.A) (hk : 3 ≤ j) (hg : Gl X "Line") (he : PE X e te)
    (hst : starEach [.Starred e sp_] X.env = [(true, eval e X.env)] := by rfl) : PE X (.Call (.Name "Line" p) [.Starred e sp_] [] pos) (tMakeS X.K C (spLineR X.K C) E0 te) := by
  obtain ⟨fL, M, F, gm⟩ := m
  exact pe_makeS M F (hr.mono hk) hg gm pass0 he (by decide) hst
def pyRow (p : Person) : PyData := .list [.str p.1, .str (numS p.2)]
def spParse (K : PySem.W.Frag) (C : Addr) : Sp := fun vs H Q _ => ∃ ps, vs = [.str (wordsOf ps)] ∧ Valid ps ∧ ∀ H' v, Same H H' → IsLine K C H' v ps → Q v H'
def spWords (K : PySem.W.Frag) : Sp := fun vs H Q _ => ∃ v ps, vs = [v] ∧ Dp K H v (.list (pyPs ps)) ∧ Valid ps ∧ ∀ H', Same H H' → Q (.str (wordsOf ps)) H'
def spLawLine (K : PySem.W.Frag) (C : Addr) : Sp := fun vs H Q _ => ∃ v ps, vs = [v] ∧ Dp K H v (.list (pyPs ps)) ∧ Valid ps ∧ ∀ H' v, Same H H' → IsLine K C H' v ps → Q v H'
theorem iteOr {c : Prop} [Decidable c] {A B : Prop} (h : B) (hc : ¬ c) : if decide c = true then A else B := by
  rw [decide_eq_false hc]; exact iteF h
section
variable {P : Program} {w : World} {K : PySem.W.Frag} {mg : Str → Option Value} {base : Heap} {C : Addr}
abbrev s_is_number : Stmt := top 33
theorem sc_is_number : FnScope ["word", "longest", "digit"] ["word", "longest"] (defScope s_is_number) := ⟨rfl, rfl, rfl, by decide +kernel, rfl, by decide +kernel, by decide +kernel⟩

theorem ok_is_number {f : Addr} {fd : FuncData} (F : FnP K "is_number" "is_number" s_is_number f fd) (T : Tx mg) : FnOk P w K mg base CX0 1 f fd ["word", "longest"] spIsNum := by
  refine F.ok sc_is_number (fun vs H Q E h => ?_) (fun cdv A outer s H vs Q E hr h => ?_)
  · obtain ⟨d, n, rfl, _⟩ := h
    rfl
  · obtain ⟨z, n, rfl, hz, k⟩ := h
    refine ⟨_, PSs.nox 
      (pss_cons (ps_if (PW.pt (pw_or (pt_not (pt_chain op_le op_le pe_int (pe_callB call_len_str (by rfl) T.f_len PySem.boot_len (pa_cons (pv 0) pa_nil)) (pv 1))) (pw_or1 (pt_val (pe_callB (c_any K rfl) (by rfl) T.f_any (by decide +kernel) (pa_cons (pe_lc (own := [("digit", 2)]) rfl sc_is_number.nd (pi_str (pv 0)) (blkOk_by (own := [("digit", 2)]) (N := ["word", "longest", "digit"]) (sc := defScope s_is_number) (by decide +kernel)) (fun _ _ _ _ _ => (pg_name (i := 2) sc_is_number.nd rfl (Or.inl rfl))) (fun _ _ _ _ _ => pts_nil) (fun _ _ _ _ _ => (pe_cmpR op_notIn_sign (pv 2) (C8.pe_gc rfl T.g_DIGITS) rfl))) pa_nil)))))) 
        (pss_one (ps_ret pe_bl)) pss_nil)
      (pss_one (ps_ret (pe_or (pe_cmpR op_eq (pe_callB call_len_str (by rfl) T.f_len PySem.boot_len (pa_cons (pv 0) pa_nil)) pe_int (nomark _)) (pe_one (pe_cmpR op_ne (pe_ix ix_str (pv 0) pe_int (fun _ _ => rfl)) pe_str (nomark _))))))), ?_⟩
    refine ⟨_, rfl, z, rfl, sz hz, _, _, rfl, rfl, _, rfl, ?_⟩
    refine iteD (fun h0 => ?_) (fun h0 => ?_)
    · refine ⟨_, rfl, _, _, rfl, rfl, _, rfl, ?_⟩
      show if (!decide ((z.length : Int) ≤ n)) = true then _ else _
      refine iteN (fun h1 => ?_) (fun h1 => ?_)
      · exact iteT (k _ _ (by unfold isNum; rw [decide_eq_false h1]; simp) (Same.refl _))
      · refine ⟨_, rfl, z, rfl, fun D hD => ?_⟩
        refine lc_it (walk_str (z := z)) (fun i G => G = upd H D (.lst ((z.cps.toList.take i).map fun c => V.bl (!decide (c ∈ digits))))) rfl (fun _ _ _ _ => trivial) ?_ ?_
        · rintro i x G G' hi rfl ⟨rfl, c, hc, rfl⟩
          refine ⟨rfl, _, rfl, c, _, rfl, rfl, _, upd_same, ?_, ?_⟩
          · rw [List.length_map]
            refine szl (Nat.lt_of_le_of_lt (List.length_take_le _ _) ?_)
            have : z.length = z.cps.size := rfl
            omega
          · rw [upd_upd]
            have hc' : z.cps.toList[i]? = some c := by simpa using hc
            rw [List.take_add_one, hc']
            simp [digits]
        · rintro G rfl
          refine ⟨D, (z.cps.toList.map fun c => !decide (c ∈ digits)), rfl, SqL.of (by rw [upd_same, List.map_map, show z.cps.size = z.cps.toList.length by simp, List.take_length]; rfl), _, rfl, ?_⟩
          have s1 : Same H (upd H D (.lst ((z.cps.toList.take z.cps.size).map fun c => V.bl (!decide (c ∈ digits))))) := same_new hD
          have eall : (z.cps.toList.map fun c => !decide (c ∈ digits)).any id = !(z.cps.toList.all fun c => decide (c ∈ digits)) := by
            rw [List.any_map]
            simp [List.all_eq_not_any_not, Function.comp_def]
          refine iteB (fun h2 => ?_) (fun h2 => ?_)
          · rw [eall] at h2
            refine k _ _ ?_ s1
            unfold isNum
            have h3 : (z.cps.toList.all fun c => decide (c ∈ digits)) = false := by simpa using h2
            rw [h3]
            simp
          · rw [eall] at h2
            have h3 : (z.cps.toList.all fun c => decide (c ∈ digits)) = true := by simpa using h2
            refine ⟨_, rfl, z, rfl, sz hz, rfl, _, rfl, ?_⟩
            refine iteD (fun h4 => ?_) (fun h4 => ?_)
            · refine k _ _ ?_ s1
              unfold isNum
              rw [h3, decide_eq_true h0, decide_eq_true h1, decide_eq_true h4]
              rfl
            · have hl : ∃ c, z.cps.toList[0]? = some c ∧ z.cps.toList.headD 0 = c := by
                cases q : z.cps.toList with
                | nil =>
                  have : z.cps.toList.length = z.length := by simp [Str.length]
                  rw [q] at this
                  simp at this
                  omega
                | cons c r => exact ⟨c, rfl, rfl⟩
              obtain ⟨c, hc, hc2⟩ := hl
              refine ⟨_, rfl, z, 0, c, rfl, rfl, sz hz, atI_nat (j := 0) hc, rfl, ?_⟩
              refine k _ _ ?_ s1
              unfold isNum
              rw [h3, decide_eq_true h0, decide_eq_true h1, decide_eq_false h4, hc2]
              rfl
    · exact ⟨_, rfl, iteT (iteT (k _ _ (by unfold isNum; rw [decide_eq_false h0]; simp) (Same.refl _)))⟩
abbrev s__law_words : Stmt := top 40
theorem sc__law_words : FnScope ["_law_people_here", "_law_name", "_law_pace_here"] ["_law_people_here"] (defScope s__law_words) := ⟨rfl, rfl, rfl, by decide +kernel, rfl, by decide +kernel, by decide +kernel⟩

theorem log_small {i : Int} (h : i.natAbs ≤ 1900) : i.natAbs.log2 < 1920 := Nat.lt_of_le_of_lt (Nat.le_trans (Nat.log2_le_self _) h) (by decide)
theorem rows_size {ps : List Person} (hV : Valid ps) : ((ps.map rowOf).map (·.length)).sum ≤ 13 * ps.length := by
  have gen : ∀ ls : List Nat, (∀ l ∈ ls, l ≤ 13) → ls.sum ≤ 13 * ls.length := by
    intro ls
    induction ls with
    | nil => intro _; simp
    | cons l ls ih =>
      intro h
      have h1 := h l (by simp)
      have h2 := ih fun x hx => h x (by simp [hx])
      rw [List.sum_cons, List.length_cons]
      omega
  have h := gen ((ps.map rowOf).map (·.length)) (by
    intro l hl
    obtain ⟨r, hr, rfl⟩ := List.mem_map.mp hl
    obtain ⟨p, hp, rfl⟩ := List.mem_map.mp hr
    exact rowT_len (hV.nm p hp) (hV.pc p hp))
  rw [List.length_map, List.length_map] at h
  exact h
theorem ok_words {f : Addr} {fd : FuncData} (F : FnP K "_law_words" "_law_words" s__law_words f fd) (T : Tx mg) : FnOk P w K mg base CX0 1 f fd ["_law_people_here"] (spWords K) := by
  refine F.ok sc__law_words (fun vs H Q E h => ?_) (fun cdv A outer s H vs Q E hr h => ?_)
  · obtain ⟨d, n, rfl, _⟩ := h
    rfl
  · obtain ⟨v, ps, rfl, hv, hV, k⟩ := h
    obtain ⟨a, xs, rfl, hS, hd⟩ := dp_lst hv
    have hlen : xs.length = ps.length := by rw [hd.len]; unfold pyPs; simp
    refine ⟨_, PSs.nox 
      (pss_one (ps_ret (e_join K pe_str (pe_lc (own := [("_law_name", 1), ("_law_pace_here", 2)]) rfl sc__law_words.nd (iL K (pv 0)) (blkOk_by (own := [("_law_name", 1), ("_law_pace_here", 2)]) (N := ["_law_people_here", "_law_name", "_law_pace_here"]) (sc := defScope s__law_words) (by decide +kernel)) (fun _ _ _ _ _ => (g_tup K 2 rfl (pgs_cons (pg_name (i := 1) sc__law_words.nd rfl (Or.inl rfl)) (pgs_cons (pg_name (i := 2) sc__law_words.nd rfl (Or.inl rfl)) pgs_nil)))) (fun _ _ _ _ _ => pts_nil) (fun _ _ _ _ _ => (pe_op op_add_str (pe_op op_add_str (pv 1) pe_str) (pe_callTy call_str_int (by rfl) T.f_str (by decide +kernel) (pa_cons (pv 2) pa_nil)))))))), ?_⟩
    refine ⟨⟨_, rfl⟩, _, rfl, a, rfl, ⟨_, hS⟩, fun D hD => ?_⟩
    refine lc_it (walk_list (K := K) (a := a) (xs := xs)) (fun i G => G = upd H D (.lst (((ps.map rowOf).take i).map V.str))) rfl ?_ ?_ ?_
    · rintro i G _ rfl
      exact (same_new hD).seq hS
    · rintro i x G G' hi rfl ⟨rfl, hx⟩
      obtain ⟨d, hd1, hd2⟩ := hd.get hx
      obtain ⟨q, hq, rfl⟩ := pyPs_get hd1
      obtain ⟨b, rfl, hb⟩ := dp_person hd2
      have hqm : q ∈ ps := List.mem_of_getElem? hq
      have nl := isName_len (hV.nm q hqm)
      have pp := hV.pc q hqm
      have nL := numS_len pp
      have hm : ∀ n, n ≤ 100000 → n ≤ sizeLine := fun n h => sz h
      refine ⟨b, _, rfl, (same_new hD).seqT hb, rfl, _, _, rfl, _, _, rfl, rfl, rfl, ?_⟩
      refine ⟨_, rfl, _, _, rfl, rfl, hm _ ?_, _, rfl, _, rfl, log_small (by omega), _, _, rfl, rfl, hm _ ?_, _, upd_same, ?_, ?_⟩
      · show q.1.length + 1 ≤ 100000
        omega
      · show (q.1 ++ (" " : Str)).length + (numS q.2).length ≤ 100000
        have : (q.1 ++ (" " : Str)).length = q.1.length + 1 := by
          rw [TL.len_tl, TL.tl_append, List.length_append, tl_sp, ← TL.len_tl]
          rfl
        omega
      · rw [List.length_map]
        refine szl (Nat.lt_of_le_of_lt (List.length_take_le _ _) ?_)
        have := hV.hi
        omega
      · rw [upd_upd, List.take_add_one, List.getElem?_map, hq]
        simp [rowOf, numS]
    · rintro G rfl
      have e : (ps.map rowOf).take xs.length = ps.map rowOf := by
        rw [hlen, ← List.length_map (f := rowOf), List.take_length]
      refine ⟨_, D, ps.map rowOf, rfl, rfl, .inl (SqL.of (by rw [upd_same, e])), ?_, ?_⟩
      · have h1 := rows_size hV
        have h2 := hV.hi
        rw [List.length_map]
        have h3 : ("\n" : Str).length = 1 := by decide +kernel
        rw [h3]
        omega
      · exact k _ (same_new hD)
abbrev s_parse_line : Stmt := top 34
theorem sc_parse_line : FnScope ["text", "people", "row", "words", "line"] ["text"] (defScope s_parse_line) := ⟨rfl, rfl, rfl, by decide +kernel, rfl, by decide +kernel, by decide +kernel⟩

theorem ok_parse {f : Addr} {fd : FuncData} (F : FnP K "parse_line" "parse_line" s_parse_line f fd) (T : Tx mg) (cName : C8.Cal P w K mg base 1 "is_name" spIsName []) (cNum : C8.Cal P w K mg base 1 "is_number" spIsNum []) (mkL : MkL P w K mg base C) :
    FnOk P w K mg base CX0 4 f fd ["text"] (spParse K C) := by
  refine F.ok sc_parse_line (fun vs H Q E h => ?_) (fun cdv A outer s H vs Q E hr h => ?_)
  · obtain ⟨d, rfl, _⟩ := h
    rfl
  · obtain ⟨ps, rfl, hV, k⟩ := h
    refine ⟨_, PSs.nox 
      (pss_cons (ps_set (i := 1) sc_parse_line.nd rfl (.inl rfl) (pe_lst pa_nil))
      (pss_cons (ps_for PassesOwn.never rfl (pi_enum (by rfl) T.f_enumerate (pa_cons (pe_lc (own := [("line", 4)]) rfl sc_parse_line.nd (iL K (pe_split (pv 0) pe_str)) (blkOk_by (own := [("line", 4)]) (N := ["text", "people", "row", "words", "line"]) (sc := defScope s_parse_line) (by decide +kernel)) (fun _ _ _ _ _ => (pg_name (i := 4) sc_parse_line.nd rfl (Or.inl rfl))) (fun _ _ _ _ _ => pts_nil) (fun _ _ _ _ _ => (pe_split (pv 4) pe_str))) pa_nil)) (g_tup K 2 rfl (pgs_cons (pg_name (i := 2) sc_parse_line.nd rfl (Or.inl rfl)) (pgs_cons (pg_name (i := 3) sc_parse_line.nd rfl (Or.inl rfl)) pgs_nil))) 
        (pss_cons (ps_if (pt_not (pt_val (C8.pe_c cName hr (by decide) rfl (pa_cons (pe_ix (ixL K) (pv 3) pe_int (fun _ _ => rfl)) pa_nil)))) 
          (pss_one ps_never) pss_nil)
        (pss_cons (ps_if (PW.pt (pw_or (pt_cmpR op_eq (pe_callB (c_len K) (by rfl) T.f_len PySem.boot_len (pa_cons (pv 3) pa_nil)) pe_int (nomark _)) (pw_or1 (pt_not (pt_val (C8.pe_c cNum hr (by decide) rfl (pa_cons (pe_ix (ixL K) (pv 3) pe_int (fun _ _ => rfl)) (pa_cons (C8.pe_gc rfl T.g_MAX_DIGITS) pa_nil)))))))) 
          (pss_one ps_never) pss_nil)
        (pss_cons (ps_if (pt_cmpR op_gt (pe_callB (c_len K) (by rfl) T.f_len PySem.boot_len (pa_cons (pv 3) pa_nil)) pe_int (nomark _)) 
          (pss_one ps_never) pss_nil)
        (pss_one (ps_expr (e_bm K PySem.F.plainAttrs_list PySem.F.slot_list_append PySem.F.type_list_append mt_append (pv 1) (pa_cons (pe_tup (pa_cons (pe_ix (ixL K) (pv 3) pe_int (fun _ _ => rfl)) (pa_cons (pe_callTy call_int_str (by rfl) T.f_int (by decide +kernel) (pa_cons (pe_ix (ixL K) (pv 3) pe_int (fun _ _ => rfl)) pa_nil)) pa_nil))) pa_nil))))))))
      (pss_one (ps_ret (pe_line mkL hr (by decide) (by rfl) (pv 1)))))), ?_⟩
    have wl := words_len hV
    have hm : ∀ n, n ≤ 100000 → n ≤ sizeLine := fun n h => sz h
    refine ⟨Nat.zero_le _, fun pl hpl => ?_⟩
    -- the rows, split
    have b10 : ((("\n" : Str)).length == 0) = false := by decide +kernel
    have b32 : (((" " : Str)).length == 0) = false := by decide +kernel
    refine ⟨_, rfl, ⟨_, rfl⟩, wordsOf ps, "\n", rfl, rfl, b10, hm _ (by omega), fun q hq => ?_⟩
    rw [split_rows hV] at *
    have hqpl : q ≠ pl := fun e => by rw [e, upd_same] at hq; cases hq
    have hH2pl : upd (upd H pl (.lst [])) q (.lst ((ps.map rowOf).map V.str)) pl = some (.lst []) := by rw [upd_ne (Ne.symm hqpl)]; exact upd_same
    have s02 : Same H (upd (upd H pl (.lst [])) q (.lst ((ps.map rowOf).map V.str))) := (same_new hpl).trans (same_new hq)
    generalize eH2 : upd (upd H pl (.lst [])) q (.lst ((ps.map rowOf).map V.str)) = H2 at *
    have hq2 : H2 q = some (.lst ((ps.map rowOf).map V.str)) := by rw [← eH2]; exact upd_same
    refine ⟨q, rfl, ⟨_, SqL.of hq2⟩, fun D hD => ?_⟩
    have hDq : D ≠ q := fun e => by rw [e, hq2] at hD; cases hD
    have hDpl : D ≠ pl := fun e => by rw [e, hH2pl] at hD; cases hD
    have hrl : ((ps.map rowOf).map V.str).length = ps.length := by simp
    refine lc_it (walk_list (K := K) (a := q) (xs := (ps.map rowOf).map V.str)) (fun i G => ∃ G0 vs, G = upd G0 D (.lst vs) ∧ G0 D = none ∧ Same H2 G0 ∧ DpAll K (delH G0 pl) vs ((ps.take i).map pyRow)) ⟨H2, [], rfl, hD, Same.refl _, .nil⟩ ?_ ?_ ?_
    · rintro i G _ ⟨G0, vs, rfl, h0, s1, _⟩
      exact SqL.of (by rw [upd_ne (Ne.symm hDq)]; exact s1 _ _ hq2)
    · rintro i x G G' hi ⟨G0, vs, rfl, h0, s1, hvs⟩ ⟨rfl, hx⟩
      rw [hrl] at hi
      obtain ⟨p, hp⟩ : ∃ p, ps[i]? = some p := ⟨ps[i], by simp [hi]⟩
      have hpm : p ∈ ps := List.mem_of_getElem? hp
      have ex : x = .str (rowOf p) := by
        rw [List.getElem?_map, List.getElem?_map, hp] at hx
        exact (Option.some.inj hx).symm
      subst ex
      have rl := rowT_len (hV.nm p hpm) (hV.pc p hpm)
      have vl : vs.length = i := by rw [hvs.len]; simp; omega
      refine ⟨rfl, _, rfl, ⟨_, rfl⟩, rowOf p, " ", rfl, rfl, b32, hm _ (by omega), fun z hz => ?_⟩
      rw [split_row (hV.nm p hpm) (hV.pc p hpm)] at *
      have hzD : z ≠ D := fun e => by rw [e, upd_same] at hz; cases hz
      have hz0 : G0 z = none := by rw [upd_ne hzD] at hz; exact hz
      have hzpl : z ≠ pl := fun e => by rw [e, s1 _ _ hH2pl] at hz0; cases hz0
      refine ⟨vs, by rw [upd_ne (Ne.symm hzD)]; exact upd_same, szl (by have := hV.hi; omega), upd G0 z (.lst [.str p.1, .str (numS p.2)]), vs ++ [.ref z], ?_, by rw [upd_ne (Ne.symm hzD)]; exact h0, s1.trans (same_new hz0), ?_⟩
      · exact upd_swap hzD
      · rw [List.take_add_one, hp, List.map_append]
        refine (hvs.same (del_new hzpl hz0)).app (.cons ?_ .nil)
        exact dp_mk_lst (by rw [delH_ne hzpl]; exact upd_same) (.cons (.str _) (.cons (.str _) .nil))
    · rintro G ⟨G0, vs, rfl, h0, s1, hvs⟩
      rw [hrl, List.take_length] at hvs
      have vl : vs.length = ps.length := by rw [hvs.len]; simp
      have sG : Same G0 (upd G0 D (.lst vs)) := same_new h0
      have hvs' : DpAll K (delH (upd G0 D (.lst vs)) pl) vs (ps.map pyRow) := hvs.same (del_new hDpl h0)
      have hG1D : delH (upd G0 D (.lst vs)) pl D = some (.lst vs) := by rw [delH_ne hDpl]; exact upd_same
      have hG1pl : upd G0 D (.lst vs) pl = some (.lst []) := by rw [upd_ne (Ne.symm hDpl)]; exact s1 _ _ hH2pl
      have s0G : Same H (delH (upd G0 D (.lst vs)) pl) := fun b o e => by
        rw [delH_ne (ne_of_none e hpl)]
        exact sG _ _ (s1 _ _ (s02 _ _ e))
      generalize upd G0 D (.lst vs) = G1 at *
      refine ⟨D, vs, rfl, SqL.of (same_del _ _ hG1D), for_it (walk_enum (K := K) (a := D) (xs := vs)) (fun i σ H' => ∃ v2 v3 : Option V, σ = [some (.str (wordsOf ps)), some (.ref pl), v2, v3, none] ∧ Same (delH G1 pl) H' ∧ Own K H' pl (pyPs (ps.take i)))
        ⟨none, none, rfl, same_del, Own.nil hG1pl⟩ ?_ ?_ ?_⟩
      · rintro i σ H' _ ⟨_, _, _, s2, _⟩
        exact SqL.of (s2 _ _ hG1D)
      · rintro i x σ H' H2' hi ⟨v2, v3, rfl, s2, ow⟩ ⟨t, _, y, rfl, ht, rfl, ei, hy⟩
        cases ei
        obtain ⟨d, hd1, hd2⟩ := hvs'.get hy
        rw [List.getElem?_map] at hd1
        obtain ⟨p, hp⟩ : ∃ p, ps[i]? = some p := ⟨ps[i]'(by omega), by simp [show i < ps.length by omega]⟩
        rw [hp] at hd1
        obtain rfl : pyRow p = d := Option.some.inj hd1
        have hpm : p ∈ ps := List.mem_of_getElem? hp
        have nn := hV.nm p hpm
        have pp := hV.pc p hpm
        obtain ⟨wa, ws, rfl, hw, hws⟩ := dp_lst hd2
        obtain rfl : ws = [.str p.1, .str (numS p.2)] := by
          cases hws with
          | cons h1 h2 =>
            cases h2 with
            | cons h3 h4 =>
              cases h4
              cases h1
              cases h3
              rfl
        have sT : Same H' (upd H' t (.tup [.int (i : Nat), .ref wa])) := same_new ht
        have hT3 : upd H' t (.tup [.int (i : Nat), .ref wa]) t = some (.tup [.int (i : Nat), .ref wa]) := upd_same
        generalize upd H' t (.tup [.int (i : Nat), .ref wa]) = H3 at *
        have hw3 : SqL K H3 wa [.str p.1, .str (numS p.2)] := (s2.trans sT).seq hw
        refine ⟨t, _, rfl, SqT.of' hT3, rfl, _, _, rfl, _, _, rfl, rfl, ?_⟩
        refine ⟨_, rfl, wa, _, 0, _, rfl, rfl, hw3, at_0, p.1, rfl, by have := isName_len nn; omega, fun b4 H4 eb s4 => ?_⟩
        rw [nn] at eb
        subst eb
        refine ⟨_, rfl, iteF ?_⟩
        refine ⟨_, rfl, wa, _, rfl, .inl (s4.seq hw3), rfl, _, rfl, ?_⟩
        refine iteF ?_
        refine ⟨_, rfl, wa, _, 1, _, rfl, rfl, s4.seq hw3, at_1, numS p.2, 4, rfl, by have := numS_len pp; omega, fun b5 H5 eb s5 => ?_⟩
        rw [isNum_pace pp] at eb
        subst eb
        refine ⟨_, rfl, iteF ?_⟩
        have s35 : Same H3 H5 := s4.trans s5
        refine ⟨_, rfl, wa, _, rfl, .inl (s35.seq hw3), _, _, rfl, rfl, _, rfl, ?_⟩
        refine iteF ?_
        obtain ⟨us, hpl5, hus⟩ := ow.same (sT.trans s35)
        have ul : us.length = i := by rw [hus.len]; unfold pyPs; simp; omega
        refine ⟨_, rfl, .inl ⟨rfl, _, SqL.of hpl5⟩, ?_⟩
        refine ⟨_, rfl, wa, _, 0, _, rfl, rfl, s35.seq hw3, at_0, _, rfl, wa, _, 1, _, rfl, rfl, s35.seq hw3, at_1, numS p.2, p.2, rfl, int_numS pp, by have := numS_len pp; omega, (by show 2 ≤ sizeLine; decide), fun t2 ht2 => ?_⟩
        have h2pl : t2 ≠ pl := fun e => by rw [e, hpl5] at ht2; cases ht2
        refine ⟨pl, us, _, rfl, rfl, by rw [upd_ne (Ne.symm h2pl)]; exact hpl5, szl (by have := hV.hi; omega), _, _, rfl, ?_, ?_⟩
        · exact del_upd_same ((s2.trans (sT.trans s35)).trans (same_new ht2))
        · rw [List.take_add_one, hp]
          unfold pyPs
          rw [List.map_append]
          refine Own.push (hus.same (del_new h2pl ht2)) ?_
          exact dp_mk_tup (by rw [delH_ne h2pl]; exact upd_same) (.cons (.str _) (.cons (.int _) .nil))
      · rintro σ H' ⟨v2, v3, rfl, s2, us, hpl5, hus⟩
        rw [vl, List.take_length] at hus
        refine ⟨_, rfl, pl, us, rfl, .inr (SqL.of hpl5), mk_line (hus.same same_del) hV fun H6 v s6 hl => k H6 v ((s0G.trans s2).trans s6) hl⟩
abbrev s__law_line : Stmt := top 41
theorem sc__law_line : FnScope ["_law_people_here"] ["_law_people_here"] (defScope s__law_line) := ⟨rfl, rfl, rfl, by decide +kernel, rfl, by decide +kernel, by decide +kernel⟩

theorem ok_law_line {f : Addr} {fd : FuncData} (F : FnP K "_law_line" "_law_line" s__law_line f fd) (cWords : C8.Cal P w K mg base 1 "_law_words" (spWords K) []) (cParse : C8.Cal P w K mg base 4 "parse_line" (spParse K C) []) :
    FnOk P w K mg base CX0 5 f fd ["_law_people_here"] (spLawLine K C) := by
  refine F.ok sc__law_line (fun vs H Q E h => ?_) (fun cdv A outer s H vs Q E hr h => ?_)
  · obtain ⟨d, n, rfl, _⟩ := h
    rfl
  · obtain ⟨v, ps, rfl, hv, hV, k⟩ := h
    refine ⟨_, PSs.nox 
      (pss_one (ps_ret (C8.pe_c cParse hr (by decide) rfl (pa_cons (C8.pe_c cWords hr (by decide) rfl (pa_cons (pv 0) pa_nil)) pa_nil)))), ?_⟩
    exact ⟨_, rfl, v, ps, rfl, hv, hV, fun H1 s1 => ⟨ps, rfl, hV, fun H2 v2 s2 hl => k H2 v2 (s1.trans s2) hl⟩⟩
end
end Bk
/-! ### the ends of hand-overs: a line in the long run -/
namespace Bk
def dd (ds : List Int) (k : Nat) : Int := ds.getD k 0
def En (ds : List Int) : Nat → Nat → Int
  | 0, 0 => dd ds 0
  | 0, k + 1 => En ds 0 k + dd ds (k + 1)
  | b + 1, 0 => En ds b (min 1 (ds.length - 1)) + dd ds 0
  | b + 1, k + 1 => max (En ds b (min (k + 2) (ds.length - 1))) (En ds (b + 1) k) + dd ds (k + 1)
termination_by b k => (b, k)
def lmax (l : List Int) : Int := l.foldl max (l.headD 0)
theorem fmax_ge : ∀ (l : List Int) (a : Int), a ≤ l.foldl max a ∧ ∀ x ∈ l, x ≤ l.foldl max a
  | [], a => ⟨Int.le_refl _, fun x h => by cases h⟩
  | y :: l, a => by
    obtain ⟨h1, h2⟩ := fmax_ge l (max a y)
    refine ⟨Int.le_trans (Int.le_max_left _ _) h1, fun x hx => ?_⟩
    rcases List.mem_cons.mp hx with rfl | hx
    · exact Int.le_trans (Int.le_max_right _ _) h1
    · exact h2 x hx
theorem fmax_mem : ∀ (l : List Int) (a : Int), l.foldl max a = a ∨ l.foldl max a ∈ l
  | [], a => .inl rfl
  | y :: l, a => by
    show l.foldl max (max a y) = a ∨ l.foldl max (max a y) ∈ y :: l
    rcases fmax_mem l (max a y) with h | h
    · rw [h]
      by_cases e : a ≤ y
      · rw [Int.max_eq_right e]
        exact .inr List.mem_cons_self
      · rw [Int.max_eq_left (by omega)]
        exact .inl rfl
    · exact .inr (List.mem_cons_of_mem _ h)
theorem lmax_ge {l : List Int} {x : Int} (h : x ∈ l) : x ≤ lmax l := (fmax_ge l _).2 x h
theorem lmax_mem {l : List Int} (h : l ≠ []) : lmax l ∈ l := by
  unfold lmax
  cases l with
  | nil => exact absurd rfl h
  | cons y l =>
    rcases fmax_mem (y :: l) ((y :: l).headD 0) with e | e
    · rw [e]
      exact List.mem_cons_self
    · exact e
theorem lmax_uniq {l : List Int} {m : Int} (h1 : m ∈ l) (h2 : ∀ y ∈ l, y ≤ m) : m = lmax l :=
  Int.le_antisymm (lmax_ge h1) (h2 _ (lmax_mem (fun e => by rw [e] at h1; cases h1)))
def sums (ds : List Int) : List Int := List.zipWith (· + ·) ds ds.tail
def paceL (ds : List Int) : Int := if ds.length = 1 then dd ds 0 else lmax (sums ds)
theorem sums_len (ds : List Int) : (sums ds).length = ds.length - 1 := by
  unfold sums
  rw [List.length_zipWith, List.length_tail]
  omega
theorem dd_get {ds : List Int} {k : Nat} (h : k < ds.length) : ds[k]? = some (dd ds k) := by
  unfold dd
  rw [List.getD_eq_getElem?_getD, List.getElem?_eq_getElem h]
  rfl
theorem sums_get {ds : List Int} {k : Nat} (h : k + 1 < ds.length) : (sums ds)[k]? = some (dd ds k + dd ds (k + 1)) := by
  unfold sums
  rw [List.getElem?_zipWith, List.getElem?_tail, dd_get (by omega), dd_get h]
theorem sums_mem {ds : List Int} {x : Int} (h : x ∈ sums ds) : ∃ k, k + 1 < ds.length ∧ x = dd ds k + dd ds (k + 1) := by
  obtain ⟨k, hk, e⟩ := List.mem_iff_getElem.mp h
  rw [sums_len] at hk
  have h2 := sums_get (ds := ds) (k := k) (by omega)
  rw [List.getElem?_eq_getElem (by rw [sums_len]; exact hk), e] at h2
  exact ⟨k, by omega, Option.some.inj h2⟩
/-- durations: at least one, none below nought -/
structure Dur (ds : List Int) : Prop where
  ne : 1 ≤ ds.length
  nn : ∀ d ∈ ds, (0 : Int) ≤ d
section
variable {ds : List Int}
theorem Dur.dd (D : Dur ds) (k : Nat) : 0 ≤ dd ds k := by
  unfold Bk.dd
  rw [List.getD_eq_getElem?_getD]
  cases e : ds[k]? with
  | none => exact Int.le_refl _
  | some x => exact D.nn x (List.mem_of_getElem? e)
theorem pace_ge (h : 2 ≤ ds.length) {k : Nat} (hk : k + 1 < ds.length) : dd ds k + dd ds (k + 1) ≤ paceL ds := by
  unfold paceL
  rw [if_neg (by omega)]
  exact lmax_ge (List.mem_of_getElem? (sums_get hk))
theorem pace_at (h : 2 ≤ ds.length) : ∃ k, k + 1 < ds.length ∧ paceL ds = dd ds k + dd ds (k + 1) := by
  unfold paceL
  rw [if_neg (by omega)]
  refine sums_mem (lmax_mem fun e => ?_)
  have := sums_len ds
  rw [e] at this
  simp at this
  omega
theorem Dur.pace_nn (D : Dur ds) : 0 ≤ paceL ds := by
  by_cases h : ds.length = 1
  · unfold paceL
    rw [if_pos h]
    exact D.dd 0
  · have h2 : 2 ≤ ds.length := by have := D.ne; omega
    obtain ⟨k, _, e⟩ := pace_at h2
    rw [e]
    have := D.dd k
    have := D.dd (k + 1)
    omega
theorem En00 : En ds 0 0 = dd ds 0 := by rw [En]
theorem En0s (k : Nat) : En ds 0 (k + 1) = En ds 0 k + dd ds (k + 1) := by rw [En]
theorem Ens0 (b : Nat) : En ds (b + 1) 0 = En ds b (min 1 (ds.length - 1)) + dd ds 0 := by rw [En]
theorem Enss (b k : Nat) : En ds (b + 1) (k + 1) = max (En ds b (min (k + 2) (ds.length - 1))) (En ds (b + 1) k) + dd ds (k + 1) := by rw [En]
theorem En_up (D : Dur ds) (b k : Nat) : En ds b k + dd ds (k + 1) ≤ En ds b (k + 1) := by
  cases b with
  | zero => rw [En0s]; exact Int.le_refl _
  | succ b => rw [Enss]; have := Int.le_max_right (En ds b (min (k + 2) (ds.length - 1))) (En ds (b + 1) k); omega
theorem En_mono (D : Dur ds) (b : Nat) : ∀ j k : Nat, En ds b k ≤ En ds b (k + j)
  | 0, k => Int.le_refl _
  | j + 1, k => by
    have h1 := En_mono D b j k
    have h2 := En_up D b (k + j)
    have h3 := D.dd (k + j + 1)
    rw [← Nat.add_assoc]
    omega
theorem En_next (D : Dur ds) (b k : Nat) (h : k + 1 < ds.length) : En ds b (k + 1) + dd ds k ≤ En ds (b + 1) k := by
  cases k with
  | zero => rw [Ens0, Nat.min_eq_left (by omega)]; exact Int.le_refl _
  | succ k =>
    rw [Enss, Nat.min_eq_left (by omega)]
    have := Int.le_max_left (En ds b (k + 2)) (En ds (b + 1) k)
    show En ds b (k + 2) + _ ≤ _
    omega
theorem En_first (D : Dur ds) : ∀ k, k < ds.length → En ds 1 k ≤ En ds 0 k + paceL ds := by
  by_cases h1 : ds.length = 1
  · intro k hk
    have : k = 0 := by omega
    subst this
    rw [Ens0, h1]
    have e : paceL ds = dd ds 0 := by unfold paceL; rw [if_pos h1]
    rw [e]
    exact Int.le_refl _
  · have h2 : 2 ≤ ds.length := by have := D.ne; omega
    intro k
    induction k with
    | zero =>
      intro hk
      rw [Ens0, Nat.min_eq_left (by omega), En0s]
      have := pace_ge h2 (k := 0) (by omega)
      omega
    | succ k ih =>
      intro hk
      have hi := ih (by omega)
      rw [Enss, En0s]
      by_cases h3 : k + 2 < ds.length
      · rw [Nat.min_eq_left (by omega)]
        have e := En0s (ds := ds) (k + 1)
        have e2 := En0s (ds := ds) k
        have := pace_ge h2 (k := k + 1) h3
        have : max (En ds 0 (k + 2)) (En ds (0 + 1) k) ≤ En ds 0 k + paceL ds := by
          refine Int.max_le.mpr ⟨?_, hi⟩
          rw [show k + 2 = k + 1 + 1 from rfl, e, e2]
          omega
        omega
      · rw [show min (k + 2) (ds.length - 1) = k + 1 by omega]
        have e2 := En0s (ds := ds) k
        have := pace_ge h2 (k := k) (by omega)
        have := D.dd k
        have : max (En ds 0 (k + 1)) (En ds (0 + 1) k) ≤ En ds 0 k + paceL ds := by
          refine Int.max_le.mpr ⟨?_, hi⟩
          rw [e2]
          omega
        omega
theorem En_le (D : Dur ds) : ∀ b k, k < ds.length → En ds (b + 1) k ≤ En ds b k + paceL ds
  | 0 => En_first D
  | b + 1 => by
    have ih := En_le D b
    intro k
    induction k with
    | zero =>
      intro hk
      rw [Ens0, Ens0 b]
      have := ih (min 1 (ds.length - 1)) (by omega)
      omega
    | succ k ihk =>
      intro hk
      rw [Enss, Enss b]
      have h1 := ih (min (k + 2) (ds.length - 1)) (by omega)
      have h2 := ihk (by omega)
      have : max (En ds (b + 1) (min (k + 2) (ds.length - 1))) (En ds (b + 1 + 1) k) ≤ max (En ds b (min (k + 2) (ds.length - 1))) (En ds (b + 1) k) + paceL ds := by
        refine Int.max_le.mpr ⟨?_, ?_⟩
        · have := Int.le_max_left (En ds b (min (k + 2) (ds.length - 1))) (En ds (b + 1) k)
          omega
        · have := Int.le_max_right (En ds b (min (k + 2) (ds.length - 1))) (En ds (b + 1) k)
          omega
      omega
theorem En_nn (D : Dur ds) : ∀ b k, k < ds.length → 0 ≤ En ds b k := by
  intro b
  induction b with
  | zero =>
    intro k hk
    have h := En_mono D 0 k 0
    rw [Nat.zero_add, En00] at h
    have := D.dd 0
    omega
  | succ b ih =>
    intro k hk
    have h := En_mono D (b + 1) k 0
    rw [Nat.zero_add, Ens0] at h
    have := ih (min 1 (ds.length - 1)) (by omega)
    have := D.dd 0
    omega
/-- at the slowest place the pace is kept from the first bucket on -/
theorem En_slow (D : Dur ds) : ∃ i, i < ds.length ∧ ∀ b : Nat, (b : Int) * paceL ds ≤ En ds b i := by
  by_cases h1 : ds.length = 1
  · refine ⟨0, by omega, fun b => ?_⟩
    have e : paceL ds = dd ds 0 := by unfold paceL; rw [if_pos h1]
    induction b with
    | zero => rw [En00, e]; have := D.dd 0; simp; exact this
    | succ b ih =>
      rw [Ens0, h1]
      have e2 : ((b + 1 : Nat) : Int) * paceL ds = (b : Int) * paceL ds + paceL ds := by
        rw [Int.natCast_succ, Int.add_mul, Int.one_mul]
      have e3 : min 1 (1 - 1) = 0 := rfl
      rw [e2, e3]
      omega
  · have h2 : 2 ≤ ds.length := by have := D.ne; omega
    obtain ⟨i, hi, e⟩ := pace_at h2
    refine ⟨i, by omega, fun b => ?_⟩
    induction b with
    | zero => simp; exact En_nn D 0 i (by omega)
    | succ b ih =>
      have h3 := En_next D b i hi
      have h4 := En_up D b i
      have e2 : ((b + 1 : Nat) : Int) * paceL ds = (b : Int) * paceL ds + paceL ds := by
        rw [Int.natCast_succ, Int.add_mul, Int.one_mul]
      rw [e2]
      omega
theorem En_low (D : Dur ds) : ∃ c : Int, c ≤ (ds.length : Int) * paceL ds ∧ ∀ (b k : Nat), k < ds.length → (b : Int) * paceL ds - c ≤ En ds b k := by
  obtain ⟨i, hi, hs⟩ := En_slow D
  have pn := D.pace_nn
  -- j places ahead of i at most j buckets are lost
  have key : ∀ (j b k : Nat), k + j = i → (b : Int) * paceL ds - (j : Int) * paceL ds ≤ En ds b k := by
    intro j
    induction j with
    | zero =>
      intro b k hk
      have : k = i := by omega
      subst this
      have := hs b
      simp
      exact this
    | succ j ih =>
      intro b k hk
      cases b with
      | zero =>
        have h := En_nn D 0 k (by omega)
        have : 0 ≤ ((j + 1 : Nat) : Int) * paceL ds := Int.mul_nonneg (by omega) pn
        simp only [Int.natCast_zero, Int.zero_mul]
        omega
      | succ b =>
        have h := En_next D b k (by omega)
        have h2 := ih b (k + 1) (by omega)
        have h3 := D.dd k
        have e2 : ((b + 1 : Nat) : Int) * paceL ds = (b : Int) * paceL ds + paceL ds := by
          rw [Int.natCast_succ, Int.add_mul, Int.one_mul]
        have e3 : ((j + 1 : Nat) : Int) * paceL ds = (j : Int) * paceL ds + paceL ds := by
          rw [Int.natCast_succ, Int.add_mul, Int.one_mul]
        rw [e2, e3]
        omega
  refine ⟨(i : Int) * paceL ds, Int.mul_le_mul_of_nonneg_right (by omega) pn, fun b k hk => ?_⟩
  by_cases h : k ≤ i
  · have h2 := key (i - k) b k (by omega)
    have h3 : ((i - k : Nat) : Int) * paceL ds ≤ (i : Int) * paceL ds := Int.mul_le_mul_of_nonneg_right (by omega) pn
    omega
  · have h2 := En_mono D b (k - i) i
    rw [show i + (k - i) = k by omega] at h2
    have h3 := hs b
    have h4 : 0 ≤ (i : Int) * paceL ds := Int.mul_nonneg (by omega) pn
    omega
def sumTo (f : Nat → Int) : Nat → Int
  | 0 => 0
  | n + 1 => sumTo f n + f n
theorem sumTo_le {f g : Nat → Int} : ∀ {n : Nat}, (∀ k, k < n → f k ≤ g k) → sumTo f n ≤ sumTo g n
  | 0, _ => Int.le_refl _
  | n + 1, h => by
    have h1 := sumTo_le (n := n) fun k hk => h k (by omega)
    have h2 := h n (by omega)
    show sumTo f n + f n ≤ sumTo g n + g n
    omega
theorem sumTo_lt {f g : Nat → Int} : ∀ {n : Nat}, (∀ k, k < n → f k ≤ g k) → (∃ k, k < n ∧ f k < g k) → sumTo f n < sumTo g n
  | 0, _, ⟨k, hk, _⟩ => absurd hk (by omega)
  | n + 1, h, ⟨k, hk, hl⟩ => by
    show sumTo f n + f n < sumTo g n + g n
    have h2 := h n (by omega)
    by_cases e : k = n
    · subst e
      have h1 := sumTo_le (n := k) fun j hj => h j (by omega)
      omega
    · have h1 := sumTo_lt (n := n) (fun j hj => h j (by omega)) ⟨k, by omega, hl⟩
      omega
theorem least {P : Nat → Prop} (h : ∃ n, P n) : ∃ n, P n ∧ ∀ j, j < n → ¬ P j := by
  refine Classical.byContradiction fun hn => ?_
  have all : ∀ n, ∀ j, j ≤ n → ¬ P j := by
    intro n
    induction n with
    | zero =>
      intro j hj hp
      exact hn ⟨j, hp, fun i hi => absurd hi (by omega)⟩
    | succ n ih =>
      intro j hj hp
      exact hn ⟨j, hp, fun i hi => ih i (by omega)⟩
  obtain ⟨n, hp⟩ := h
  exact all n n (Nat.le_refl _) hp
def St1 (ds : List Int) (b : Nat) : Prop := ∀ k, k < ds.length → En ds (b + 1) k = En ds b k + paceL ds
/-- durations of a line -/
structure DurB (ds : List Int) : Prop extends Dur ds where
  few : ds.length ≤ 11
  pos : ∀ d ∈ ds, (1 : Int) ≤ d
  top : ∀ d ∈ ds, d ≤ 1000
theorem DurB.dd_le (D : DurB ds) (k : Nat) : Bk.dd ds k ≤ 1000 := by
  unfold Bk.dd
  rw [List.getD_eq_getElem?_getD]
  cases e : ds[k]? with
  | none => show (0 : Int) ≤ 1000; decide
  | some x => exact D.top x (List.mem_of_getElem? e)
theorem DurB.dd_pos (D : DurB ds) {k : Nat} (h : k < ds.length) : 1 ≤ Bk.dd ds k := by
  unfold Bk.dd
  rw [List.getD_eq_getElem?_getD, List.getElem?_eq_getElem h]
  exact D.pos _ (List.getElem_mem h)
theorem DurB.pace_le (D : DurB ds) : paceL ds ≤ 2000 := by
  by_cases h : ds.length = 1
  · unfold paceL
    rw [if_pos h]
    have := D.dd_le 0
    omega
  · obtain ⟨k, _, e⟩ := pace_at (ds := ds) (by have := D.ne; omega)
    rw [e]
    have := D.dd_le k
    have := D.dd_le (k + 1)
    omega
theorem DurB.pace_pos (D : DurB ds) : 1 ≤ paceL ds := by
  by_cases h : ds.length = 1
  · unfold paceL
    rw [if_pos h]
    exact D.dd_pos (by omega)
  · obtain ⟨k, hk, e⟩ := pace_at (ds := ds) (by have := D.ne; omega)
    rw [e]
    have := D.dd_pos (k := k) (by omega)
    have := D.dd_pos hk
    omega
theorem sumTo_top {f : Nat → Int} {c : Int} : ∀ {n : Nat}, (∀ k, k < n → f k ≤ c) → sumTo f n ≤ n * c
  | 0, _ => by simp [sumTo]
  | n + 1, h => by
    have h1 := sumTo_top (n := n) fun k hk => h k (by omega)
    have h2 := h n (by omega)
    show sumTo f n + f n ≤ ((n + 1 : Nat) : Int) * c
    rw [Int.natCast_succ, Int.add_mul, Int.one_mul]
    omega
theorem sumTo_bot {f : Nat → Int} {c : Int} : ∀ {n : Nat}, (∀ k, k < n → c ≤ f k) → n * c ≤ sumTo f n
  | 0, _ => by simp [sumTo]
  | n + 1, h => by
    have h1 := sumTo_bot (n := n) fun k hk => h k (by omega)
    have h2 := h n (by omega)
    show ((n + 1 : Nat) : Int) * c ≤ sumTo f n + f n
    rw [Int.natCast_succ, Int.add_mul, Int.one_mul]
    omega
theorem En0_le (D : DurB ds) : ∀ k, En ds 0 k ≤ ((k + 1 : Nat) : Int) * 1000
  | 0 => by rw [En00]; have := D.dd_le 0; omega
  | k + 1 => by rw [En0s]; have := D.dd_le (k + 1); have := En0_le D k; omega
theorem steady_ex (D : DurB ds) : ∃ b, b ≤ 400000 ∧ St1 ds b := by
  refine Classical.byContradiction fun hn => ?_
  obtain ⟨c, hc0, hc⟩ := En_low D.toDur
  have pl := D.pace_le
  have few := D.few
  have hc1 : c ≤ 22000 := by
    refine Int.le_trans hc0 ?_
    have a1 : (ds.length : Int) * paceL ds ≤ (ds.length : Int) * 2000 := Int.mul_le_mul_of_nonneg_left pl (by omega)
    omega
  let f : Nat → Nat → Int := fun b k => En ds b k - (b : Int) * paceL ds
  have step : ∀ b, b ≤ 400000 → sumTo (f (b + 1)) ds.length < sumTo (f b) ds.length := by
    intro b hb
    have e2 : ((b + 1 : Nat) : Int) * paceL ds = (b : Int) * paceL ds + paceL ds := by
      rw [Int.natCast_succ, Int.add_mul, Int.one_mul]
    refine sumTo_lt (fun k hk => ?_) ?_
    · show En ds (b + 1) k - ((b + 1 : Nat) : Int) * paceL ds ≤ En ds b k - (b : Int) * paceL ds
      have := En_le D.toDur b k hk
      omega
    · have h1 : ¬ St1 ds b := fun z => hn ⟨b, hb, z⟩
      refine Classical.byContradiction fun h2 => h1 fun k hk => ?_
      have h3 := En_le D.toDur b k hk
      refine Int.le_antisymm h3 ?_
      refine Int.not_lt.mp fun h4 => h2 ⟨k, hk, ?_⟩
      show En ds (b + 1) k - ((b + 1 : Nat) : Int) * paceL ds < En ds b k - (b : Int) * paceL ds
      omega
  have down : ∀ b : Nat, b ≤ 400000 → sumTo (f b) ds.length ≤ sumTo (f 0) ds.length - b := by
    intro b
    induction b with
    | zero => simp
    | succ b ih =>
      intro hb
      have := step b (by omega)
      have := ih (by omega)
      omega
  have low : (ds.length : Int) * (-22000) ≤ sumTo (f 400000) ds.length := sumTo_bot fun k hk => by
    show -22000 ≤ En ds 400000 k - ((400000 : Nat) : Int) * paceL ds
    have := hc 400000 k hk
    omega
  have up : sumTo (f 0) ds.length ≤ (ds.length : Int) * 11000 := sumTo_top fun k hk => by
    show En ds 0 k - ((0 : Nat) : Int) * paceL ds ≤ 11000
    have := En0_le D k
    simp only [Int.natCast_zero, Int.zero_mul]
    omega
  have h1 := down 400000 (Nat.le_refl _)
  omega
theorem steady_on (D : Dur ds) {b : Nat} (h : St1 ds b) : St1 ds (b + 1) := by
  intro k
  induction k with
  | zero =>
    intro hk
    rw [Ens0, Ens0 b, h _ (by omega)]
    omega
  | succ k ih =>
    intro hk
    rw [Enss, Enss b, h _ (by omega), ih (by omega)]
    have e : max (En ds b (min (k + 2) (ds.length - 1)) + paceL ds) (En ds (b + 1) k + paceL ds) = max (En ds b (min (k + 2) (ds.length - 1))) (En ds (b + 1) k) + paceL ds := by
      omega
    rw [e]
    omega
theorem steady_all (D : Dur ds) {b : Nat} (h : St1 ds b) : ∀ j, St1 ds (b + j)
  | 0 => h
  | j + 1 => steady_on D (steady_all D h j)
theorem steady_at (D : Dur ds) {b : Nat} (h : St1 ds b) (k : Nat) (hk : k < ds.length) : ∀ j : Nat, En ds (b + j) k = En ds b k + (j : Int) * paceL ds
  | 0 => by simp
  | j + 1 => by
    have h1 := steady_all D h j k hk
    rw [← Nat.add_assoc, h1, steady_at D h k hk j, Int.natCast_succ, Int.add_mul, Int.one_mul]
    omega
theorem stN_ex (D : DurB ds) : ∃ n, (n ≤ 400000 ∧ St1 ds n) ∧ ∀ j, j < n → ¬ St1 ds j := by
  obtain ⟨b, hb, h⟩ := steady_ex D
  obtain ⟨n, hn, hl⟩ := least ⟨b, h⟩
  refine ⟨n, ⟨?_, hn⟩, hl⟩
  by_cases e : n ≤ b
  · omega
  · exact absurd h (hl b (by omega))
end
open Classical in
/-- the first steady bucket -/
noncomputable def stN (ds : List Int) : Nat := if h : ∃ n, (n ≤ 400000 ∧ St1 ds n) ∧ ∀ j, j < n → ¬ St1 ds j then Classical.choose h else 0
section
variable {ds : List Int}
theorem stN_spec (D : DurB ds) : (stN ds ≤ 400000 ∧ St1 ds (stN ds)) ∧ ∀ j, j < stN ds → ¬ St1 ds j := by
  unfold stN
  rw [dif_pos (stN_ex D)]
  exact Classical.choose_spec (stN_ex D)
theorem stN_far (D : DurB ds) {k : Nat} (hk : k < ds.length) {b : Nat} (h : stN ds ≤ b) : En ds b k = En ds (stN ds) k + ((b : Int) - stN ds) * paceL ds := by
  have h1 := steady_at D.toDur (stN_spec D).1.2 k hk (b - stN ds)
  rw [show stN ds + (b - stN ds) = b by omega] at h1
  rw [h1, show ((b - stN ds : Nat) : Int) = (b : Int) - stN ds by omega]
end
def row (ds : List Int) (b : Nat) : List Int := (List.range ds.length).map (En ds b)
theorem row_len (ds : List Int) (b : Nat) : (row ds b).length = ds.length := by unfold row; simp
theorem row_get {ds : List Int} {b k : Nat} (h : k < ds.length) : (row ds b)[k]? = some (En ds b k) := by
  unfold row
  rw [List.getElem?_map, List.getElem?_range h]
  rfl
theorem row_st {ds : List Int} {b : Nat} : row ds (b + 1) = (row ds b).map (· + paceL ds) ↔ St1 ds b := by
  unfold row
  rw [List.map_map]
  constructor
  · intro h k hk
    have h2 := congrArg (fun l => l[k]?) h
    simp only [List.getElem?_map, List.getElem?_range hk] at h2
    exact Option.some.inj h2
  · intro h
    refine List.map_congr_left fun k hk => ?_
    exact h k (List.mem_range.mp hk)
end Bk
/-! ### courses: pace, ends -/
namespace L2
open PySem PySem.Spec PyProof.Rows
theorem walk_zipT {K : PySem.W.Frag} {a b : Addr} {xs ys : List V} {n : Nat} (hn : n = min xs.length ys.length) : Walk (RZ.ItzT K a b) n (fun H => SqT K H a xs ∧ SqT K H b ys) (YPair (fun i => xs[i]?) (fun i => ys[i]?)) := by
  subst hn
  refine ⟨fun i _ hi q => ?_, fun _ q => ⟨xs, ys, q.1, q.2, by omega⟩, fun i H v H' _ q y => ?_⟩
  · have h1 : i < xs.length := by omega
    have h2 : i < ys.length := by omega
    exact ⟨xs, ys, xs[i], ys[i], q.1, q.2, by simp [h1], by simp [h2]⟩
  · obtain ⟨T, x, z, h1, h2, h3, h4, h5⟩ := y
    exact ⟨T, x, z, h1, h2, h3, h4 xs q.1, h5 ys q.2⟩
end L2
namespace Bk
open PySem PySem.Spec PyProof.Rows L2
theorem at_last {xs : List V} {v : V} : atI (xs ++ [v]) (-1) = some v := by
  unfold atI ixN
  rw [if_neg (by omega), List.length_append, if_pos (by simp; omega)]
  show (xs ++ [v])[(-1 + ((xs.length + 1 : Nat) : Int)).toNat]? = some v
  rw [show (-1 + ((xs.length + 1 : Nat) : Int)).toNat = xs.length by omega]
  simp
theorem eqv_nilI (l : List Int) : PyData.eqv (.list (l.map PyData.int)) (.list []) = l.isEmpty := by cases l <;> rfl
def rowTo (ds : List Int) (b i : Nat) : List Int := (List.range i).map (En ds b)
theorem rowTo_s (ds : List Int) (b i : Nat) : rowTo ds b (i + 1) = rowTo ds b i ++ [En ds b i] := by
  unfold rowTo
  rw [List.range_succ, List.map_append]
  rfl
theorem rowTo_len (ds : List Int) (b i : Nat) : (rowTo ds b i).length = i := by unfold rowTo; simp
theorem eqv_ints : ∀ l m : List Int, PyData.eqv (.list (l.map PyData.int)) (.list (m.map PyData.int)) = decide (l = m)
  | [], [] => rfl
  | [], _ :: _ => rfl
  | _ :: _, [] => rfl
  | x :: l, y :: m => by
    have ih := eqv_ints l m
    show (decide (x = y) && PyData.eqv (.list (l.map PyData.int)) (.list (m.map PyData.int))) = _
    rw [ih]
    by_cases h : x = y <;> by_cases h2 : l = m <;> simp [h, h2]
def spPace (K : PySem.W.Frag) : Sp := fun vs H Q _ => ∃ (a : Addr) (ds : List Int), vs = [.ref a] ∧ (SqL K H a (ivs ds) ∨ SqT K H a (ivs ds)) ∧ 1 ≤ ds.length ∧ ds.length ≤ 1000 ∧ ∀ H', Same H H' → Q (.int (paceL ds)) H'
def spFirst (K : PySem.W.Frag) : Sp := fun vs H Q _ => ∃ (a : Addr) (ds : List Int), vs = [.ref a] ∧ SqT K H a (ivs ds) ∧ ds.length ≤ 1000 ∧ ∀ H' p, Same H H' → H p = none → H' p = some (.lst (ivs (row ds 0))) → Q (.ref p) H'
def spNext (K : PySem.W.Frag) : Sp := fun vs H Q _ => ∃ (a e : Addr) (ds : List Int) (b : Nat), vs = [.ref a, .ref e] ∧ SqT K H a (ivs ds) ∧ 1 ≤ ds.length ∧ ds.length ≤ 1000 ∧ SqL K H e (ivs (row ds b)) ∧ ∀ H' p, Same H H' → H p = none → H' p = some (.lst (ivs (row ds (b + 1)))) → Q (.ref p) H'
section
variable {P : Program} {w : World} {K : PySem.W.Frag} {mg : Str → Option Value} {base : Heap} {C : Addr}
abbrev s_pace_of : Stmt := top 16
theorem sc_pace_of : FnScope ["durations", "one", "other"] ["durations"] (defScope s_pace_of) := ⟨rfl, rfl, rfl, by decide +kernel, rfl, by decide +kernel, by decide +kernel⟩

theorem ok_pace {f : Addr} {fd : FuncData} (F : FnP K "pace_of" "pace_of" s_pace_of f fd) (T : Tx mg) : FnOk P w K mg base CX0 1 f fd ["durations"] (spPace K) := by
  refine F.ok sc_pace_of (fun vs H Q E h => ?_) (fun cdv A outer s H vs Q E hr h => ?_)
  · obtain ⟨_, _, rfl, _⟩ := h
    rfl
  · obtain ⟨a, ds, rfl, hS, h1, h2, k⟩ := h
    refine ⟨_, PSs.nox 
      (pss_cons (ps_if (pt_cmpR op_eq (pe_callB (c_len K) (by rfl) T.f_len PySem.boot_len (pa_cons (pv 0) pa_nil)) pe_int (nomark _)) 
        (pss_one (ps_ret (pe_ix (ixQ K) (pv 0) pe_int (fun _ _ => rfl)))) pss_nil)
      (pss_one (ps_ret (pe_callB (c_max K rfl) (by rfl) T.f_max (by decide +kernel) (pa_cons (pe_lc (own := [("one", 1), ("other", 2)]) rfl sc_pace_of.nd (RZ.pi_zipA (by rfl) T.f_zip (pa_cons (pv 0) (pa_cons (pe_slice (SlR.or (slL K) (slT K)) (pv 0) (po_some pe_int) po_none) pa_nil))) (blkOk_by (own := [("one", 1), ("other", 2)]) (N := ["durations", "one", "other"]) (sc := defScope s_pace_of) (by decide +kernel)) (fun _ _ _ _ _ => (g_tup K 2 rfl (pgs_cons (pg_name (i := 1) sc_pace_of.nd rfl (Or.inl rfl)) (pgs_cons (pg_name (i := 2) sc_pace_of.nd rfl (Or.inl rfl)) pgs_nil)))) (fun _ _ _ _ _ => pts_nil) (fun _ _ _ _ _ => (pe_op op_add (pv 1) (pv 2)))) pa_nil))))), ?_⟩
    refine ⟨_, rfl, a, _, rfl, hS, rfl, _, rfl, ?_⟩
    rw [ivs_len]
    refine iteD (fun h0 => ?_) (fun h0 => ?_)
    · have e1 : ds.length = 1 := by have := vint.mp h0; omega
      have k0 := k H (Same.refl _)
      rw [show paceL ds = dd ds 0 by unfold paceL; rw [if_pos e1]] at k0
      have ea : atI (ivs ds) 0 = some (.int (dd ds 0)) := atI_nat (j := 0) (ivs_at (dd_get (by omega)))
      rcases hS with hS | hS
      · exact ⟨_, rfl, .inl ⟨a, _, _, _, rfl, rfl, hS, ea, k0⟩⟩
      · exact ⟨_, rfl, .inr (.inl ⟨a, _, _, _, rfl, rfl, hS, ea, k0⟩)⟩
    · have e1 : ds.length ≠ 1 := fun z => h0 (vint.mpr (by omega))
      have hcut : cutV (ivs ds) (some 1) none = ivs ds.tail := by
        rw [show (1 : Int) = ((1 : Nat) : Int) from rfl, cut_from (by rw [ivs_len]; omega)]
        unfold ivs
        rw [← List.map_drop, List.drop_one]
      have fin : ∀ (H2 : Hp) (D : Addr), Same H H2 → H2 D = some (.lst (ivs (sums ds))) → ∃ (a : Addr) (ns : List Int), [V.ref D] = [V.ref a] ∧ SqL K H2 a (ns.map V.int) ∧ 0 < ns.length ∧ ∀ m, m ∈ ns → (∀ y, y ∈ ns → y ≤ m) → Q (.int m) H2 := fun H2 D s2 hD => by
        refine ⟨D, sums ds, rfl, SqL.of hD, by rw [sums_len]; omega, fun m hm hy => ?_⟩
        rw [lmax_uniq hm hy]
        have := k H2 s2
        rw [show paceL ds = lmax (sums ds) by unfold paceL; rw [if_neg e1]] at this
        exact this
      have sl1 : (sums ds).length = ds.length - 1 := sums_len ds
      have tl : ds.tail.length = ds.length - 1 := List.length_tail
      have hn : (sums ds).length = min (ivs ds).length (ivs ds.tail).length := by rw [ivs_len, ivs_len, tl, sl1]; omega
      have step : ∀ (H1 : Hp) (D : Addr), Same H H1 → H1 D = none → ∀ i x G G', i < (sums ds).length → (Same H1 G ∧ G D = some (.lst (ivs ((sums ds).take i)))) → YPair (fun i => (ivs ds)[i]?) (fun i => (ivs ds.tail)[i]?) i G x G' →
          gTup K 2 (gCons (gName 1) (gCons (gName 2) gNil)) x (wipe [some (V.ref a), none, none] [1, 2]) G' fun σ2 H2 => wipe σ2 [1, 2] = wipe [some (V.ref a), none, none] [1, 2] ∧ tYes σ2 H2 fun b H3 =>
            if b = true then tOp (rI0 fun i j => V.int (i + j)) (tVar 1) (tVar 2) σ2 H3 fun y H4 => ∃ acc, H4 D = some (.lst acc) ∧ acc.length < sizeLine ∧ (Same H1 (upd H4 D (.lst (acc ++ [y]))) ∧ upd H4 D (.lst (acc ++ [y])) D = some (.lst (ivs ((sums ds).take (i + 1))))) else (Same H1 H3 ∧ H3 D = some (.lst (ivs ((sums ds).take (i + 1))))) := by
        rintro H1 D sH hD i x G G' hi ⟨sG, gD⟩ ⟨t, y, z, rfl, ht, rfl, hy, hz⟩
        obtain ⟨u1, hu1, rfl⟩ := ivs_get hy
        obtain ⟨u2, hu2, rfl⟩ := ivs_get hz
        rw [List.getElem?_tail] at hu2
        have htD : t ≠ D := fun e => by rw [e, gD] at ht; cases ht
        have es := sums_get (ds := ds) (k := i) (by omega)
        rw [dd_get (by omega)] at hu1 hu2
        cases hu1
        cases hu2
        refine ⟨t, _, rfl, SqT.of' upd_same, rfl, _, _, rfl, _, _, rfl, rfl, rfl, _, rfl, _, rfl, _, _, rfl, rfl, _, same_new ht _ _ gD, ?_, same_mut (sG.trans (same_new ht)) hD, ?_⟩
        · rw [ivs_len]
          exact szl (Nat.lt_of_le_of_lt (List.length_take_le _ _) (by omega))
        · rw [upd_same, List.take_add_one, es, ivs_app]
          rfl
      rcases hS with hS | hS
      · refine ⟨_, rfl, _, rfl, _, rfl, .inl ⟨a, _, rfl, hS, fun q hq => ?_⟩⟩
        rw [hcut]
        have hS2 : SqL K (upd H q (.lst (ivs ds.tail))) a (ivs ds) := Same.seq (same_new hq) hS
        have hS3 : SqL K (upd H q (.lst (ivs ds.tail))) q (ivs ds.tail) := SqL.of upd_same
        have s1 : Same H (upd H q (.lst (ivs ds.tail))) := same_new hq
        refine ⟨a, q, _, _, rfl, .inl ⟨hS2, hS3, fun D hD => ?_⟩⟩
        generalize upd H q (.lst (ivs ds.tail)) = H1 at *
        refine lc_it (walk_zip (K := K) (a := a) (b := q) hn) (fun i G => Same H1 G ∧ G D = some (.lst (ivs ((sums ds).take i)))) ⟨same_new hD, upd_same⟩ ?_ (step H1 D s1 hD) ?_
        · rintro i G _ ⟨sG, _⟩
          exact ⟨Same.seq sG hS2, Same.seq sG hS3⟩
        · rintro G ⟨sG, gD⟩
          rw [List.take_length] at gD
          exact fin G D (s1.trans sG) gD
      · refine ⟨_, rfl, _, rfl, _, rfl, .inr ⟨a, _, rfl, hS, ?_, fun q hq => ?_⟩⟩
        · rw [show (1 : Int) = ((1 : Nat) : Int) from rfl, HT.sIx_nat, ivs_len]
          omega
        · rw [hcut]
          have hS2 : SqT K (upd H q (.tup (ivs ds.tail))) a (ivs ds) := (same_new hq).seqT hS
          have hS3 : SqT K (upd H q (.tup (ivs ds.tail))) q (ivs ds.tail) := SqT.of' upd_same
          have s1 : Same H (upd H q (.tup (ivs ds.tail))) := same_new hq
          refine ⟨a, q, _, _, rfl, .inr ⟨hS2, hS3, fun D hD => ?_⟩⟩
          generalize upd H q (.tup (ivs ds.tail)) = H1 at *
          refine lc_it (walk_zipT (K := K) (a := a) (b := q) hn) (fun i G => Same H1 G ∧ G D = some (.lst (ivs ((sums ds).take i)))) ⟨same_new hD, upd_same⟩ ?_ (step H1 D s1 hD) ?_
          · rintro i G _ ⟨sG, _⟩
            exact ⟨sG.seqT hS2, sG.seqT hS3⟩
          · rintro G ⟨sG, gD⟩
            rw [List.take_length] at gD
            exact fin G D (s1.trans sG) gD
abbrev s_first_ends : Stmt := top 17
theorem sc_first_ends : FnScope ["durations", "ends", "ticks"] ["durations"] (defScope s_first_ends) := ⟨rfl, rfl, rfl, by decide +kernel, rfl, by decide +kernel, by decide +kernel⟩

theorem ok_first {f : Addr} {fd : FuncData} (F : FnP K "first_ends" "first_ends" s_first_ends f fd) (T : Tx mg) : FnOk P w K mg base CX0 1 f fd ["durations"] (spFirst K) := by
  refine F.ok sc_first_ends (fun vs H Q E h => ?_) (fun cdv A outer s H vs Q E hr h => ?_)
  · obtain ⟨_, _, rfl, _⟩ := h
    rfl
  · obtain ⟨a, ds, rfl, hS, h2, k⟩ := h
    refine ⟨_, PSs.nox 
      (pss_cons (ps_set (i := 1) sc_first_ends.nd rfl (.inl rfl) (pe_lst pa_nil))
      (pss_cons (ps_for PassesOwn.never rfl (iT K (pv 0)) (pg_name (i := 2) sc_first_ends.nd rfl (Or.inl rfl)) 
        (pss_one (ps_expr (e_bm K PySem.F.plainAttrs_list PySem.F.slot_list_append PySem.F.type_list_append mt_append (pv 1) (pa_cons (pe_op op_add (pv 2) (pe_ifExp (pt_cmpR (o_neD K hr.units) (pv 1) (pe_lst pa_nil) (nomark _)) (pe_ix (ixL K) (pv 1) (pe_un un_neg pe_int) (fun _ _ => rfl)) pe_int)) pa_nil)))))
      (pss_one (ps_ret (pv 1))))), ?_⟩
    refine ⟨Nat.zero_le _, fun el hel => ?_⟩
    have hS' : SqT K (upd H el (.lst [])) a (ivs ds) := (same_new hel).seqT hS
    refine ⟨_, rfl, a, rfl, ⟨_, hS'⟩, for_it (walk_tup (K := K) (a := a) (xs := ivs ds)) (fun i σ H' => ∃ v, σ = [some (.ref a), some (.ref el), v] ∧ Same H H' ∧ H' el = some (.lst (ivs (rowTo ds 0 i)))) ⟨none, rfl, same_new hel, upd_same⟩ ?_ ?_ ?_⟩
    · rintro i σ H' _ ⟨_, _, s1, _⟩
      exact s1.seqT hS
    · rintro i x σ H' H1 hi ⟨v, rfl, s1, h1⟩ ⟨rfl, hx⟩
      obtain ⟨u, hu, rfl⟩ := ivs_get hx
      rw [ivs_len] at hi
      have eu : u = dd ds i := by rw [dd_get hi] at hu; exact (Option.some.inj hu).symm
      subst eu
      refine ⟨_, rfl, .inl ⟨rfl, _, SqL.of h1⟩, _, rfl, _, rfl, Nat.zero_le _, fun e he => ?_⟩
      have hee : e ≠ el := fun z => by rw [z, h1] at he; cases he
      have s2 : Same H1 (upd H1 e (.lst [])) := same_new he
      refine ⟨_, _, dp_mk_lst (s2 _ _ h1) (dps_ints _), dp_mk_lst upd_same .nil, shaped_ints _, by decide +kernel, _, rfl, ?_⟩
      rw [eqv_nilI]
      have fin : ∀ z : Int, z + dd ds i = En ds 0 i → ∃ (l : Addr) (xs : List V) (y : V), V.ref el = .ref l ∧ [V.int (dd ds i + z)] = [y] ∧ upd H1 e (.lst []) l = some (.lst xs) ∧ xs.length < sizeLine ∧
          ∃ v, [some (V.ref a), some (V.ref el), some (V.int (dd ds i))] = [some (.ref a), some (.ref el), v] ∧ Same H (upd (upd H1 e (.lst [])) l (.lst (xs ++ [y]))) ∧ upd (upd H1 e (.lst [])) l (.lst (xs ++ [y])) el = some (.lst (ivs (rowTo ds 0 (i + 1)))) := by
        intro z hz
        refine ⟨el, _, _, rfl, rfl, s2 _ _ h1, szl (by rw [ivs_len, rowTo_len]; omega), _, rfl, same_mut (s1.trans s2) hel, ?_⟩
        rw [upd_same, rowTo_s, ivs_app, ← hz, Int.add_comm]
        rfl
      cases i with
      | zero =>
        refine iteF ?_
        refine ⟨_, _, rfl, rfl, fin 0 (by rw [En00]; omega)⟩
      | succ i =>
        have e1 : (rowTo ds 0 (i + 1)).isEmpty = false := by rw [rowTo_s]; simp
        rw [e1]
        refine iteT ⟨_, rfl, _, rfl, el, _, _, .int (En ds 0 i), rfl, rfl, SqL.of (s2 _ _ h1), ?_, _, _, rfl, rfl, fin _ (by rw [En0s])⟩
        rw [rowTo_s, ivs_app]
        exact at_last
    · rintro σ H' ⟨v, rfl, s1, h1⟩
      rw [ivs_len] at h1
      exact ⟨_, rfl, k H' el s1 hel h1⟩
abbrev s_next_ends : Stmt := top 18
theorem sc_next_ends : FnScope ["durations", "ends", "found", "place", "ticks", "begin"] ["durations", "ends"] (defScope s_next_ends) := ⟨rfl, rfl, rfl, by decide +kernel, rfl, by decide +kernel, by decide +kernel⟩

theorem ok_next {f : Addr} {fd : FuncData} (F : FnP K "next_ends" "next_ends" s_next_ends f fd) (T : Tx mg) : FnOk P w K mg base CX0 1 f fd ["durations", "ends"] (spNext K) := by
  refine F.ok sc_next_ends (fun vs H Q E h => ?_) (fun cdv A outer s H vs Q E hr h => ?_)
  · obtain ⟨_, _, _, _, rfl, _⟩ := h
    rfl
  · obtain ⟨a, e, ds, b, rfl, hS, h1, h2, hE, k⟩ := h
    refine ⟨_, PSs.nox 
      (pss_cons (ps_set (i := 2) sc_next_ends.nd rfl (.inl rfl) (pe_lst pa_nil))
      (pss_cons (ps_for PassesOwn.never rfl (pi_enumT (by rfl) T.f_enumerate (pa_cons (pv 0) pa_nil)) (g_tup K 2 rfl (pgs_cons (pg_name (i := 3) sc_next_ends.nd rfl (Or.inl rfl)) (pgs_cons (pg_name (i := 4) sc_next_ends.nd rfl (Or.inl rfl)) pgs_nil))) 
        (pss_cons (ps_set (i := 5) sc_next_ends.nd rfl (.inl rfl) (pe_ix (ixL K) (pv 1) (pe_callB (call_min2 rfl) (by rfl) T.f_min (by decide +kernel) (pa_cons (pe_op op_add (pv 3) pe_int) (pa_cons (pe_op op_sub (pe_callB (c_len K) (by rfl) T.f_len PySem.boot_len (pa_cons (pv 1) pa_nil)) pe_int) pa_nil))) (fun _ _ => rfl)))
        (pss_cons (ps_if (pt_cmpR (o_neD K hr.units) (pv 2) (pe_lst pa_nil) (nomark _)) 
          (pss_one (ps_set (i := 5) sc_next_ends.nd rfl (.inl rfl) (pe_callB (call_max2 rfl) (by rfl) T.f_max (by decide +kernel) (pa_cons (pv 5) (pa_cons (pe_ix (ixL K) (pv 2) (pe_un un_neg pe_int) (fun _ _ => rfl)) pa_nil))))) pss_nil)
        (pss_one (ps_expr (e_bm K PySem.F.plainAttrs_list PySem.F.slot_list_append PySem.F.type_list_append mt_append (pv 2) (pa_cons (pe_op op_add (pv 5) (pv 4)) pa_nil)))))))
      (pss_one (ps_ret (pv 2))))), ?_⟩
    refine ⟨Nat.zero_le _, fun el hel => ?_⟩
    have hS' : SqT K (upd H el (.lst [])) a (ivs ds) := (same_new hel).seqT hS
    have hEl : ∀ {H'}, Same H H' → SqL K H' e (ivs (row ds b)) := fun s => Same.seq s hE
    refine ⟨_, rfl, a, _, rfl, hS', for_it (walk_enumT (K := K) (a := a) (ys0 := ivs ds)) (fun i σ H' => ∃ v3 v4 v5, σ = [some (.ref a), some (.ref e), some (.ref el), v3, v4, v5] ∧ Same H H' ∧ H' el = some (.lst (ivs (rowTo ds (b + 1) i)))) ⟨none, none, none, rfl, same_new hel, upd_same⟩ ?_ ?_ ?_⟩
    · rintro i σ H' _ ⟨_, _, _, _, s1, _⟩
      exact s1.seqT hS
    · rintro i x σ H' H2 hi ⟨v3, v4, v5, rfl, s0, h1⟩ ⟨t, _, y, rfl, ht, rfl, ei, hx⟩
      cases ei
      obtain ⟨u, hu, rfl⟩ := ivs_get hx
      rw [ivs_len] at hi
      have eu : u = dd ds i := by rw [dd_get hi] at hu; exact (Option.some.inj hu).symm
      subst eu
      have s1 : Same H (upd H' t (.tup [.int (i : Nat), .int (dd ds i)])) := s0.trans (same_new ht)
      have hte : t ≠ el := fun z => by rw [z, h1] at ht; cases ht
      have h1' : upd H' t (.tup [.int (i : Nat), .int (dd ds i)]) el = some (.lst (ivs (rowTo ds (b + 1) i))) := same_new ht _ _ h1
      refine ⟨t, _, rfl, SqT.of' upd_same, rfl, _, _, rfl, _, _, rfl, rfl, ?_⟩
      generalize upd H' t (.tup [.int (i : Nat), .int (dd ds i)]) = H3 at *
      have em : (if (ds.length : Int) - 1 < ((i : Nat) : Int) + 1 then (ds.length : Int) - 1 else ((i : Nat) : Int) + 1) = ((min (i + 1) (ds.length - 1) : Nat) : Int) := by split <;> omega
      refine ⟨_, rfl, _, rfl, _, _, rfl, rfl, _, rfl, e, _, rfl, .inl (hEl s1), _, _, rfl, rfl, _, _, rfl, ?_⟩
      rw [ivs_len, row_len, em]
      refine ⟨e, _, _, .int (En ds b (min (i + 1) (ds.length - 1))), rfl, rfl, hEl s1, atI_nat (ivs_at (row_get (by omega))), ?_⟩
      refine ⟨_, rfl, Nat.zero_le _, fun n hn => ?_⟩
      have s2 : Same H3 (upd H3 n (.lst [])) := same_new hn
      refine ⟨_, _, dp_mk_lst (s2 _ _ h1') (dps_ints _), dp_mk_lst upd_same .nil, shaped_ints _, by decide +kernel, _, rfl, ?_⟩
      rw [eqv_nilI]
      have fin : ∀ z : Int, z + dd ds i = En ds (b + 1) i → tDrop (tBM K "list" rAppend (tVar 2) (tCons (tOp (rI0 fun i j => V.int (i + j)) (tVar 5) (tVar 4)) tNil))
          { nx := fun σ H' => ∃ v3 v4 v5, σ = [some (V.ref a), some (V.ref e), some (V.ref el), v3, v4, v5] ∧ Same H H' ∧ H' el = some (HO.lst (ivs (rowTo ds (b + 1) (i + 1)))), rt := Q }
          [some (V.ref a), some (V.ref e), some (V.ref el), some (V.int (i : Nat)), some (V.int (dd ds i)), some (.int z)] (upd H3 n (.lst [])) := by
        intro z hz
        refine ⟨_, rfl, .inl ⟨rfl, _, SqL.of (s2 _ _ h1')⟩, _, rfl, _, rfl, _, _, rfl, rfl, el, _, _, rfl, rfl, s2 _ _ h1', szl (by rw [ivs_len, rowTo_len]; omega), _, _, _, rfl, same_mut (s1.trans s2) hel, ?_⟩
        rw [upd_same, rowTo_s, ivs_app, ← hz]
        rfl
      cases i with
      | zero =>
        refine iteF ?_
        exact fin _ (by rw [Ens0])
      | succ i =>
        have e1 : (rowTo ds (b + 1) (i + 1)).isEmpty = false := by rw [rowTo_s]; simp
        rw [e1]
        refine iteT ⟨_, rfl, _, rfl, _, rfl, el, _, _, .int (En ds (b + 1) i), rfl, rfl, SqL.of (s2 _ _ h1'), ?_, _, _, rfl, ?_⟩
        · rw [rowTo_s, ivs_app]
          exact at_last
        · refine fin _ ?_
          rw [Enss, show min (i + 2) (ds.length - 1) = min (i + 1 + 1) (ds.length - 1) from rfl]
          split <;> omega
    · rintro σ H' ⟨_, _, _, rfl, s1, h1⟩
      rw [ivs_len] at h1
      exact ⟨_, rfl, k H' el s1 hel h1⟩
end
end Bk
/-! ### a line's names, durations and pace -/
namespace Bk
open PySem PySem.Spec PyProof.Rows L2
def pacesOf (ps : List Person) : List Int := ps.map (·.2)
def namesOf (ps : List Person) : List Str := ps.map (·.1)
def dursOf (ps : List Person) : List Int := List.zipWith (fun i j => if j > i then j else i) (pacesOf ps) (pacesOf ps).tail
theorem pacesOf_len (ps : List Person) : (pacesOf ps).length = ps.length := by unfold pacesOf; simp
theorem dursOf_len (ps : List Person) : (dursOf ps).length = ps.length - 1 := by unfold dursOf; rw [List.length_zipWith, List.length_tail, pacesOf_len]; omega
theorem dursOf_get {ps : List Person} {i : Nat} {x y : Int} (hx : (pacesOf ps)[i]? = some x) (hy : (pacesOf ps)[i + 1]? = some y) : (dursOf ps)[i]? = some (if y > x then y else x) := by
  unfold dursOf
  rw [List.getElem?_zipWith, List.getElem?_tail, hx, hy]
theorem durB_of {ps : List Person} (hV : Valid ps) : DurB (dursOf ps) := by
  have hp : ∀ {i : Nat} {x : Int}, (pacesOf ps)[i]? = some x → 1 ≤ x ∧ x ≤ 1000 := fun {i x} h => by
    unfold pacesOf at h
    rw [List.getElem?_map] at h
    cases e : ps[i]? with
    | none => rw [e] at h; cases h
    | some p =>
      rw [e] at h
      have h2 : p.2 = x := Option.some.inj h
      have := hV.pc p (List.mem_of_getElem? e)
      omega
  have hd : ∀ d ∈ dursOf ps, 1 ≤ d ∧ d ≤ 1000 := fun d h => by
    obtain ⟨i, hi, e⟩ := List.mem_iff_getElem.mp h
    rw [dursOf_len] at hi
    have h1 : i < (pacesOf ps).length := by rw [pacesOf_len]; omega
    have h2 : i + 1 < (pacesOf ps).length := by rw [pacesOf_len]; omega
    have g := dursOf_get (List.getElem?_eq_getElem h1) (List.getElem?_eq_getElem h2)
    rw [List.getElem?_eq_getElem (by rw [dursOf_len]; exact hi), e] at g
    have a1 := hp (List.getElem?_eq_getElem h1)
    have a2 := hp (List.getElem?_eq_getElem h2)
    have g2 := Option.some.inj g
    rw [g2]
    split <;> omega
  have := hV.lo
  have := hV.hi
  exact { ne := by rw [dursOf_len]; omega, nn := fun d h => by have := hd d h; omega, few := by rw [dursOf_len]; omega, pos := fun d h => (hd d h).1, top := fun d h => (hd d h).2 }
def spNames (K : PySem.W.Frag) (C : Addr) : Sp := fun vs H Q _ => ∃ (a : Addr) (ps : List Person), vs = [.ref a] ∧ IsLine K C H (.ref a) ps ∧ Valid ps ∧ ∀ H' p, Same H H' → H' p = some (.tup ((namesOf ps).map V.str)) → Q (.ref p) H'
def spDur (K : PySem.W.Frag) (C : Addr) : Sp := fun vs H Q _ => ∃ (a : Addr) (ps : List Person), vs = [.ref a] ∧ IsLine K C H (.ref a) ps ∧ Valid ps ∧ ∀ H' p, Same H H' → H' p = some (.tup (ivs (dursOf ps))) → Q (.ref p) H'
def spLPace (K : PySem.W.Frag) (C : Addr) : Sp := fun vs H Q _ => ∃ (a : Addr) (ps : List Person), vs = [.ref a] ∧ IsLine K C H (.ref a) ps ∧ Valid ps ∧ ∀ H', Same H H' → Q (.int (paceL (dursOf ps))) H'
section
variable {P : Program} {w : World} {K : PySem.W.Frag} {mg : Str → Option Value} {base : Heap} {C : Addr}
abbrev s_Line_names : Stmt := inClass (top 14) 5
theorem sc_Line_names : FnScope ["self", "name", "pace"] ["self"] (defScope s_Line_names) := ⟨rfl, rfl, rfl, by decide +kernel, rfl, by decide +kernel, by decide +kernel⟩

theorem ok_names {f : Addr} {fd : FuncData} (F : FnP K "names" "Line.names" s_Line_names f fd) (T : Tx mg) (L : LineT K mg C) : FnOk P w K mg base CX0 1 f fd ["self"] (spNames K C) := by
  refine F.ok sc_Line_names (fun vs H Q E h => ?_) (fun cdv A outer s H vs Q E hr h => ?_)
  · obtain ⟨_, _, rfl, _⟩ := h
    rfl
  · obtain ⟨a, ps, rfl, ⟨a', dx, p, xs, e, ha, hp, hd⟩, hV, k⟩ := h
    cases e
    have hl : xs.length = ps.length := by rw [hd.len]; unfold pyPs; simp
    have hi := hV.hi
    refine ⟨_, PSs.nox 
      (pss_one (ps_ret (pe_callTy (c_tuple K) (by rfl) T.f_tuple (by decide +kernel) (pa_cons (pe_lc (own := [("name", 1), ("pace", 2)]) rfl sc_Line_names.nd (iT K (e_fld K (pv 0))) (blkOk_by (own := [("name", 1), ("pace", 2)]) (N := ["self", "name", "pace"]) (sc := defScope s_Line_names) (by decide +kernel)) (fun _ _ _ _ _ => (g_tup K 2 rfl (pgs_cons (pg_name (i := 1) sc_Line_names.nd rfl (Or.inl rfl)) (pgs_cons (pg_name (i := 2) sc_Line_names.nd rfl (Or.inl rfl)) pgs_nil)))) (fun _ _ _ _ _ => pts_nil) (fun _ _ _ _ _ => (pv 1))) pa_nil)))), ?_⟩
    refine ⟨_, rfl, a, C, dx, _, _, rfl, ha, L.cl, L.nC, crew_lookup, p, rfl, ⟨_, SqT.of' hp⟩, fun D hD => ?_⟩
    refine lc_it (walk_tup (K := K) (a := p) (xs := xs)) (fun i G => G = upd H D (.lst (((namesOf ps).take i).map V.str))) rfl ?_ ?_ ?_
    · rintro i G _ rfl
      exact (same_new hD).seqT (SqT.of' hp)
    · rintro i x G G' hi' rfl ⟨rfl, hx⟩
      obtain ⟨d, hd1, hd2⟩ := hd.get hx
      obtain ⟨q, hq, rfl⟩ := pyPs_get hd1
      obtain ⟨b, rfl, hb⟩ := dp_person hd2
      refine ⟨b, _, rfl, (same_new hD).seqT hb, rfl, _, _, rfl, _, _, rfl, rfl, rfl, _, rfl, _, upd_same, ?_, ?_⟩
      · rw [List.length_map]
        exact szl (Nat.lt_of_le_of_lt (List.length_take_le _ _) (by omega))
      · rw [upd_upd, List.take_add_one]
        unfold namesOf
        rw [List.getElem?_map, hq]
        simp
    · rintro G rfl
      rw [hl, show ps.length = (namesOf ps).length by unfold namesOf; simp, List.take_length]
      refine ⟨D, _, rfl, .inl ⟨SqL.of upd_same, fun l hl => ?_⟩⟩
      exact k _ l ((same_new hD).trans (same_new hl)) upd_same
abbrev s_Line_durations : Stmt := inClass (top 14) 6
theorem sc_Line_durations : FnScope ["self", "paces", "name", "pace", "one", "other"] ["self"] (defScope s_Line_durations) := ⟨rfl, rfl, rfl, by decide +kernel, rfl, by decide +kernel, by decide +kernel⟩

theorem ok_durs {f : Addr} {fd : FuncData} (F : FnP K "durations" "Line.durations" s_Line_durations f fd) (T : Tx mg) (L : LineT K mg C) : FnOk P w K mg base CX0 1 f fd ["self"] (spDur K C) := by
  refine F.ok sc_Line_durations (fun vs H Q E h => ?_) (fun cdv A outer s H vs Q E hr h => ?_)
  · obtain ⟨_, _, rfl, _⟩ := h
    rfl
  · obtain ⟨a, ps, rfl, ⟨a', dx, p, xs, e, ha, hp, hd⟩, hV, k⟩ := h
    cases e
    have hl : xs.length = ps.length := by rw [hd.len]; unfold pyPs; simp
    have hi := hV.hi
    have lo := hV.lo
    refine ⟨_, PSs.nox 
      (pss_cons (ps_setLc (i := 1) (own := [("name", 2), ("pace", 3)]) rfl sc_Line_durations.nd rfl rfl (sw_true rfl rfl rfl (by decide +kernel)) (iT K (e_fld K (pv 0))) (blkOk_by (own := [("name", 2), ("pace", 3)]) (N := ["self", "paces", "name", "pace", "one", "other"]) (sc := defScope s_Line_durations) (by decide +kernel)) (fun _ _ _ _ _ => (g_tup K 2 rfl (pgs_cons (pg_name (i := 2) sc_Line_durations.nd rfl (Or.inl rfl)) (pgs_cons (pg_name (i := 3) sc_Line_durations.nd rfl (Or.inl rfl)) pgs_nil)))) (fun _ _ _ _ _ => pts_nil) (fun _ _ _ _ _ => (pv 3)))
      (pss_one (ps_ret (pe_callTy (c_tuple K) (by rfl) T.f_tuple (by decide +kernel) (pa_cons (pe_lc (own := [("one", 4), ("other", 5)]) rfl sc_Line_durations.nd (pi_zip (by rfl) T.f_zip (pa_cons (pv 1) (pa_cons (pe_slice (slL K) (pv 1) (po_some pe_int) po_none) pa_nil))) (blkOk_by (own := [("one", 4), ("other", 5)]) (N := ["self", "paces", "name", "pace", "one", "other"]) (sc := defScope s_Line_durations) (by decide +kernel)) (fun _ _ _ _ _ => (g_tup K 2 rfl (pgs_cons (pg_name (i := 4) sc_Line_durations.nd rfl (Or.inl rfl)) (pgs_cons (pg_name (i := 5) sc_Line_durations.nd rfl (Or.inl rfl)) pgs_nil)))) (fun _ _ _ _ _ => pts_nil) (fun _ _ _ _ _ => (pe_callB (call_max2 rfl) (by rfl) T.f_max (by decide +kernel) (pa_cons (pv 4) (pa_cons (pv 5) pa_nil))))) pa_nil))))), ?_⟩
    refine ⟨_, rfl, a, C, dx, _, _, rfl, ha, L.cl, L.nC, crew_lookup, p, rfl, ⟨_, SqT.of' hp⟩, fun D hD => ?_⟩
    refine lc_it (walk_tup (K := K) (a := p) (xs := xs)) (fun i G => G = upd H D (.lst (ivs ((pacesOf ps).take i)))) rfl ?_ ?_ ?_
    · rintro i G _ rfl
      exact (same_new hD).seqT (SqT.of' hp)
    · rintro i x G G' hi' rfl ⟨rfl, hx⟩
      obtain ⟨d, hd1, hd2⟩ := hd.get hx
      obtain ⟨q, hq, rfl⟩ := pyPs_get hd1
      obtain ⟨b, rfl, hb⟩ := dp_person hd2
      refine ⟨b, _, rfl, (same_new hD).seqT hb, rfl, _, _, rfl, _, _, rfl, rfl, rfl, _, rfl, _, upd_same, ?_, ?_⟩
      · rw [ivs_len]
        exact szl (Nat.lt_of_le_of_lt (List.length_take_le _ _) (by omega))
      · rw [upd_upd, List.take_add_one]
        unfold pacesOf
        rw [List.getElem?_map, hq, ivs_app]
        simp [ivs]
    · rintro G rfl
      rw [hl, ← pacesOf_len, List.take_length]
      have s1 : Same H (upd H D (.lst (ivs (pacesOf ps)))) := same_new hD
      have h1D : upd H D (.lst (ivs (pacesOf ps))) D = some (.lst (ivs (pacesOf ps))) := upd_same
      generalize upd H D (.lst (ivs (pacesOf ps))) = H1 at *
      have hcut : cutV (ivs (pacesOf ps)) (some 1) none = ivs (pacesOf ps).tail := by
        rw [show (1 : Int) = ((1 : Nat) : Int) from rfl, cut_from (by rw [ivs_len, pacesOf_len]; omega)]
        unfold ivs
        rw [← List.map_drop, List.drop_one]
      refine ⟨_, rfl, _, rfl, _, rfl, D, _, rfl, SqL.of h1D, fun q hq => ?_⟩
      rw [hcut]
      have hS2 : SqL K (upd H1 q (.lst (ivs (pacesOf ps).tail))) D (ivs (pacesOf ps)) := SqL.of (same_new hq _ _ h1D)
      have hS3 : SqL K (upd H1 q (.lst (ivs (pacesOf ps).tail))) q (ivs (pacesOf ps).tail) := SqL.of upd_same
      have s2 : Same H (upd H1 q (.lst (ivs (pacesOf ps).tail))) := s1.trans (same_new hq)
      refine ⟨D, q, _, _, rfl, hS2, hS3, fun D2 hD2 => ?_⟩
      generalize upd H1 q (.lst (ivs (pacesOf ps).tail)) = H2 at *
      have hn : (dursOf ps).length = min (ivs (pacesOf ps)).length (ivs (pacesOf ps).tail).length := by
        rw [ivs_len, ivs_len, List.length_tail, dursOf_len, pacesOf_len]
        omega
      refine lc_it (walk_zip (K := K) (a := D) (b := q) hn) (fun i G => Same H2 G ∧ G D2 = some (.lst (ivs ((dursOf ps).take i)))) ⟨same_new hD2, upd_same⟩ ?_ ?_ ?_
      · rintro i G _ ⟨sG, _⟩
        exact ⟨Same.seq sG hS2, Same.seq sG hS3⟩
      · rintro i x G G' hi' ⟨sG, gD⟩ ⟨t, y, z, rfl, ht, rfl, hy, hz⟩
        obtain ⟨u1, hu1, rfl⟩ := ivs_get hy
        obtain ⟨u2, hu2, rfl⟩ := ivs_get hz
        rw [List.getElem?_tail] at hu2
        refine ⟨t, _, rfl, SqT.of' upd_same, rfl, _, _, rfl, _, _, rfl, rfl, rfl, _, rfl, _, rfl, _, _, rfl, _, same_new ht _ _ gD, ?_, same_mut (sG.trans (same_new ht)) hD2, ?_⟩
        · rw [ivs_len]
          exact szl (Nat.lt_of_le_of_lt (List.length_take_le _ _) (by rw [dursOf_len] at hi'; omega))
        · rw [upd_same, List.take_add_one, dursOf_get hu1 hu2, ivs_app]
          rfl
      · rintro G ⟨sG, gD⟩
        rw [List.take_length] at gD
        refine ⟨D2, _, rfl, .inl ⟨SqL.of gD, fun l hl => ?_⟩⟩
        exact k _ l ((s2.trans sG).trans (same_new hl)) upd_same
abbrev s_Line_pace : Stmt := inClass (top 14) 7
theorem sc_Line_pace : FnScope ["self"] ["self"] (defScope s_Line_pace) := ⟨rfl, rfl, rfl, by decide +kernel, rfl, by decide +kernel, by decide +kernel⟩

theorem ok_lpace {f : Addr} {fd : FuncData} (F : FnP K "pace" "Line.pace" s_Line_pace f fd) (T : Tx mg) (L : LineT K mg C) (cPace : C8.Cal P w K mg base 1 "pace_of" (spPace K) []) (pDur : PropC P w K mg base 1 C "durations" (spDur K C)) : FnOk P w K mg base CX0 3 f fd ["self"] (spLPace K C) := by
  refine F.ok sc_Line_pace (fun vs H Q E h => ?_) (fun cdv A outer s H vs Q E hr h => ?_)
  · obtain ⟨_, _, rfl, _⟩ := h
    rfl
  · obtain ⟨a, ps, rfl, hL, hV, k⟩ := h
    obtain ⟨a', dx, p, xs, e, ha, hp, hd⟩ := id hL
    cases e
    have D := durB_of hV
    refine ⟨_, PSs.nox 
      (pss_one (ps_ret (C8.pe_c cPace hr (by decide) rfl (pa_cons (e_prop pDur L.cl hr (by decide) (pv 0)) pa_nil)))), ?_⟩
    refine ⟨_, rfl, a, dx, _, rfl, ha, a, ps, rfl, hL, hV, fun H' q s1 hq => ?_⟩
    exact ⟨q, _, rfl, .inr (SqT.of' hq), D.ne, by have := D.few; omega, fun H2 s2 => k H2 (s1.trans s2)⟩
end
end Bk
/-! ### courses -/
namespace Bk
open PySem PySem.Spec PyProof.Rows L2
def couF (st : Int) (e : Addr) : List (Str × V) := [("step", .int st), ("early", .ref e)]
theorem couF_step {s : Int} {e : Addr} : (couF s e).lookup ("step" : Str) = some (.int s) := by
  unfold couF
  simp [List.lookup]
theorem couF_early {s : Int} {e : Addr} : (couF s e).lookup ("early" : Str) = some (.ref e) := by
  unfold couF
  have h : (("early" : Str) == ("step" : Str)) = false := by decide +kernel
  simp [List.lookup, h]
theorem couF_new {s : Int} {e : Addr} : putF "early" (.ref e) (putF "step" (.int s) []) = couF s e := by
  have h : ¬ ("step" : Str) = "early" := by decide +kernel
  show (if ("step" : Str) = "early" then _ else (("step" : Str), V.int s) :: [(("early" : Str), V.ref e)]) = _
  rw [if_neg h]
  rfl
theorem couF_no {s : Int} {e : Addr} {m : Str} (h1 : (m == "step") = false) (h2 : (m == "early") = false) : (couF s e).lookup m = none := by
  unfold couF
  simp [List.lookup, h1, h2]
theorem szl2 {n : Nat} (h : n ≤ 1000000) : n < sizeLine := Nat.lt_of_le_of_lt h (by decide)
structure CouT (K : PySem.W.Frag) (CC : Addr) : Prop where
  cl : Cls K CC
  nS : NoAttr K CC "step"
  nE : NoAttr K CC "early"
/-- the first rows of a course, at e -/
def Rows (H : Hp) (e : Addr) (ds : List Int) (n : Nat) : Prop := ∃ vs, H e = some (.lst vs) ∧ vs.length = n + 1 ∧ ∀ i, i ≤ n → ∃ p, vs[i]? = some (.ref p) ∧ p ≠ e ∧ H p = some (.lst (ivs (row ds i)))
def IsCou (CC : Addr) (H : Hp) (v : V) (ds : List Int) : Prop := ∃ a dx e, v = .ref a ∧ H a = some (.ins CC dx (couF (paceL ds) e)) ∧ Rows H e ds (stN ds)
theorem Rows.same {H H' : Hp} {e : Addr} {ds : List Int} {n : Nat} (h : Rows H e ds n) (s : Same H H') : Rows H' e ds n := by
  obtain ⟨vs, h1, h2, h3⟩ := h
  refine ⟨vs, s _ _ h1, h2, fun i hi => ?_⟩
  obtain ⟨p, a1, a2, a3⟩ := h3 i hi
  exact ⟨p, a1, a2, s _ _ a3⟩
theorem IsCou.same {CC : Addr} {H H' : Hp} {v : V} {ds : List Int} (h : IsCou CC H v ds) (s : Same H H') : IsCou CC H' v ds := by
  obtain ⟨a, dx, e, h1, h2, h3⟩ := h
  exact ⟨a, dx, e, h1, s _ _ h2, h3.same s⟩
theorem Rows.last {H : Hp} {e : Addr} {ds : List Int} {n : Nat} (h : Rows H e ds n) : ∃ vs p, H e = some (.lst vs) ∧ atI vs (-1) = some (.ref p) ∧ p ≠ e ∧ H p = some (.lst (ivs (row ds n))) := by
  obtain ⟨vs, h1, h2, h3⟩ := h
  obtain ⟨p, a1, a2, a3⟩ := h3 n (Nat.le_refl _)
  refine ⟨vs, p, h1, ?_, a2, a3⟩
  unfold atI ixN
  rw [if_neg (by omega), if_pos (by omega)]
  show vs[(-1 + ((vs.length : Nat) : Int)).toNat]? = some (V.ref p)
  rw [show (-1 + ((vs.length : Nat) : Int)).toNat = n by omega]
  exact a1
def spCouB (K : PySem.W.Frag) (CC : Addr) : Sp := fun vs H Q _ => ∃ (a dx d : Addr) (ds : List Int), vs = [.ref a, .ref d] ∧ H a = some (.ins CC dx []) ∧ SqT K (delH H a) d (ivs ds) ∧ DurB ds ∧
  ∀ H', Same (delH H a) H' → IsCou CC H' (.ref a) ds → Q .non H'
def spCEnds (CC : Addr) : Sp := fun vs H Q _ => ∃ (a : Addr) (b : Int) (ds : List Int), vs = [.ref a, .int b] ∧ IsCou CC H (.ref a) ds ∧ DurB ds ∧ 0 ≤ b ∧ ∀ H' p, Same H H' → H' p = some (.lst (ivs (row ds b.toNat))) → Q (.ref p) H'
/-- Course(durations) -/
theorem mk_cou {K : PySem.W.Frag} {CC : Addr} {H : Hp} {d x dx : Addr} {ds : List Int} {R : VK} {E : XK} (hd : SqT K H d (ivs ds)) (D : DurB ds) (hx : H x = Option.none) (hdx : H dx = Option.none) (hne : dx ≠ x) (k : ∀ H', Same H H' → IsCou CC H' (.ref x) ds → R .non H') :
    spCouB K CC [V.ref x, .ref d] (upd (upd H dx (.own x)) x (.ins CC dx [])) R E := by
  have s1 : Same H (upd H dx (.own x)) := same_new hdx
  have s2 : Same H (delH (upd (upd H dx (.own x)) x (.ins CC dx [])) x) := fun b o e => by
    rw [delH_ne (ne_of_none e hx), upd_ne (ne_of_none e hx)]
    exact s1 b o e
  exact ⟨x, dx, d, ds, rfl, upd_same, s2.seqT hd, D, fun H' s3 hc => k H' (s2.trans s3) hc⟩
section
variable {P : Program} {w : World} {K : PySem.W.Frag} {mg : Str → Option Value} {base : Heap} {C CC : Addr}
abbrev s_Course___init__ : Stmt := inClass (top 19) 0
theorem sc_Course___init__ : FnScope ["self", "durations", "later", "end"] ["self", "durations"] (defScope s_Course___init__) := ⟨rfl, rfl, rfl, by decide +kernel, rfl, by decide +kernel, by decide +kernel⟩

theorem ok_couInit {f : Addr} {fd : FuncData} (F : FnP K "__init__" "Course.__init__" s_Course___init__ f fd) (T : Tx mg) (L : CouT K CC) (cPace : C8.Cal P w K mg base 1 "pace_of" (spPace K) []) (cFirst : C8.Cal P w K mg base 1 "first_ends" (spFirst K) []) (cNext : C8.Cal P w K mg base 1 "next_ends" (spNext K) []) : FnOk P w K mg base CX0 2 f fd ["self", "durations"] (spCouB K CC) := by
  refine F.ok sc_Course___init__ (fun vs H Q E h => ?_) (fun cdv A outer s H vs Q E hr h => ?_)
  · obtain ⟨_, _, _, _, rfl, _⟩ := h
    rfl
  · obtain ⟨a, dx, d, ds, rfl, ha, hd, D, k⟩ := h
    have few := D.few
    have ne := D.ne
    obtain ⟨⟨hN1, hN2⟩, hN3⟩ := stN_spec D
    refine ⟨_, PSs.nox 
      (pss_cons (ps_fld (pv 0) (C8.pe_c cPace hr (by decide) rfl (pa_cons (pv 1) pa_nil)) rfl)
      (pss_cons (ps_fld (pv 0) (pe_lst (pa_cons (C8.pe_c cFirst hr (by decide) rfl (pa_cons (pv 1) pa_nil)) pa_nil)) rfl)
      (pss_cons (ps_set (i := 2) sc_Course___init__.nd rfl (.inl rfl) (C8.pe_c cNext hr (by decide) rfl (pa_cons (pv 1) (pa_cons (pe_ix (ixL K) (e_fld K (pv 0)) (pe_un un_neg pe_int) (fun _ _ => rfl)) pa_nil))))
      (pss_one (ps_while PassesOwn.never (pt_cmpR (o_neD K hr.units) (pv 2) (pe_lc (own := [("end", 3)]) rfl sc_Course___init__.nd (iL K (pe_ix (ixL K) (e_fld K (pv 0)) (pe_un un_neg pe_int) (fun _ _ => rfl))) (blkOk_by (own := [("end", 3)]) (N := ["self", "durations", "later", "end"]) (sc := defScope s_Course___init__) (by decide +kernel)) (fun _ _ _ _ _ => (pg_name (i := 3) sc_Course___init__.nd rfl (Or.inl rfl))) (fun _ _ _ _ _ => pts_nil) (fun _ _ _ _ _ => (pe_op op_add (pv 3) (e_fld K (pv 0))))) (nomark _)) 
        (pss_cons (ps_expr (e_bm K PySem.F.plainAttrs_list PySem.F.slot_list_append PySem.F.type_list_append mt_append (e_fld K (pv 0)) (pa_cons (pv 2) pa_nil)))
        (pss_one (ps_set (i := 2) sc_Course___init__.nd rfl (.inl rfl) (C8.pe_c cNext hr (by decide) rfl (pa_cons (pv 1) (pa_cons (pv 2) pa_nil))))))))))), ?_⟩
    have hdd : SqT K H d (ivs ds) := same_del.seqT hd
    refine ⟨_, rfl, d, ds, rfl, .inr hdd, ne, by omega, fun H1 s1 => ?_⟩
    refine ⟨_, rfl, a, CC, dx, _, rfl, s1 _ _ ha, L.cl, L.nS, (by show 0 < 1000; decide), ?_⟩
    have s2 : Same (delH H a) (upd H1 a (.ins CC dx (putF "step" (.int (paceL ds)) []))) := same_mut (same_del.trans s1) delH_same
    refine ⟨_, rfl, d, ds, rfl, s2.seqT hd, by omega, fun H3 p0 s3 hp0 h3p => ?_⟩
    have h3a := s3 _ _ (show upd H1 a (.ins CC dx (putF "step" (.int (paceL ds)) [])) a = some (.ins CC dx (putF "step" (.int (paceL ds)) [])) from upd_same)
    have s03 := s2.trans s3
    have hpa : p0 ≠ a := fun e => by rw [e, upd_same] at hp0; cases hp0
    generalize upd H1 a (.ins CC dx (putF "step" (.int (paceL ds)) [])) = H2 at *
    refine ⟨(by show 1 ≤ sizeLine; decide), fun e he => ?_⟩
    have hea : e ≠ a := fun z => by rw [z, h3a] at he; cases he
    have hep : e ≠ p0 := fun z => by rw [z, h3p] at he; cases he
    refine ⟨_, rfl, a, CC, dx, _, rfl, by rw [upd_ne (Ne.symm hea)]; exact h3a, L.cl, L.nE, (by show 1 < 1000; decide), ?_⟩
    rw [couF_new]
    have he0 : delH H a e = none := by
      cases q : delH H a e with
      | none => rfl
      | some o => rw [s03 _ _ q] at he; cases he
    have s4 : Same (delH H a) (upd (upd H3 e (.lst [.ref p0])) a (.ins CC dx (couF (paceL ds) e))) := same_mut (s03.trans (same_new he)) delH_same
    have h4a : upd (upd H3 e (.lst [.ref p0])) a (.ins CC dx (couF (paceL ds) e)) a = some (.ins CC dx (couF (paceL ds) e)) := upd_same
    have h4r : Rows (upd (upd H3 e (.lst [.ref p0])) a (.ins CC dx (couF (paceL ds) e))) e ds 0 := by
      refine ⟨_, by rw [upd_ne hea]; exact upd_same, rfl, fun i hi => ?_⟩
      have : i = 0 := by omega
      subst this
      refine ⟨p0, rfl, Ne.symm hep, ?_⟩
      rw [upd_ne hpa, upd_ne (Ne.symm hep)]
      exact h3p
    generalize upd (upd H3 e (.lst [.ref p0])) a (.ins CC dx (couF (paceL ds) e)) = H4 at *
    obtain ⟨vs0, q0, v1, v2, v3, v4⟩ := h4r.last
    refine ⟨_, rfl, _, rfl, a, CC, dx, _, _, rfl, h4a, L.cl, L.nE, couF_early, _, rfl, e, vs0, _, _, rfl, rfl, SqL.of v1, v2, ?_⟩
    refine ⟨d, q0, ds, 0, rfl, s4.seqT hd, ne, by omega, SqL.of v4, fun H5 l0 s5 hl0 h5l => ?_⟩
    refine ⟨fun m σ H' => ∃ (n : Nat) (lt : Addr) (ex : Option V), σ = [some (.ref a), some (.ref d), some (.ref lt), ex] ∧ m = stN ds - n ∧ n ≤ stN ds ∧ Same (delH H a) H' ∧ H' a = some (.ins CC dx (couF (paceL ds) e)) ∧ Rows H' e ds n ∧ lt ≠ e ∧ H' lt = some (.lst (ivs (row ds (n + 1)))),
      ⟨stN ds, 0, l0, none, rfl, rfl, Nat.zero_le _, s4.trans s5, s5 _ _ h4a, h4r.same s5, fun z => ?_, h5l⟩, ?_⟩
    · obtain ⟨us, u1, _⟩ := h4r
      rw [z, u1] at hl0
      cases hl0
    · rintro m σ H' ⟨n, lt, ex, rfl, rfl, hn, s6, h6a, h6r, hlt, h6l⟩
      obtain ⟨ws, q, w1, w2, w3, w4⟩ := h6r.last
      have rl : (row ds n).length = ds.length := row_len ds n
      refine ⟨_, rfl, _, rfl, a, CC, dx, _, _, rfl, h6a, L.cl, L.nE, couF_early, _, rfl, e, ws, _, _, rfl, rfl, SqL.of w1, w2, q, rfl, ⟨_, SqL.of w4⟩, fun D1 hD1 => ?_⟩
      refine lc_it (walk_list (K := K) (a := q) (xs := ivs (row ds n))) (fun i G => G = upd H' D1 (.lst (ivs (((row ds n).take i).map (· + paceL ds))))) rfl ?_ ?_ ?_
      · rintro i G _ rfl
        exact SqL.of (same_new hD1 _ _ w4)
      · rintro i x G G' hi rfl ⟨rfl, hx⟩
        obtain ⟨u, hu, rfl⟩ := ivs_get hx
        rw [ivs_len, rl] at hi
        refine ⟨rfl, _, rfl, _, rfl, a, CC, dx, _, _, rfl, same_new hD1 _ _ h6a, L.cl, L.nS, couF_step, _, _, rfl, rfl, _, upd_same, ?_, ?_⟩
        · rw [ivs_len, List.length_map]
          exact szl (Nat.lt_of_le_of_lt (List.length_take_le _ _) (by omega))
        · rw [upd_upd, List.take_add_one, hu, List.map_append, ivs_app]
          rfl
      · rintro G rfl
        rw [ivs_len, List.take_length]
        have s7 : Same H' (upd H' D1 (.lst (ivs ((row ds n).map (· + paceL ds))))) := same_new hD1
        have h7D : upd H' D1 (.lst (ivs ((row ds n).map (· + paceL ds)))) D1 = some (.lst (ivs ((row ds n).map (· + paceL ds)))) := upd_same
        generalize upd H' D1 (.lst (ivs ((row ds n).map (· + paceL ds)))) = H7 at *
        refine ⟨_, _, dp_mk_lst (s7 _ _ h6l) (dps_ints _), dp_mk_lst h7D (dps_ints _), shaped_ints _, shaped_ints _, _, rfl, ?_⟩
        rw [eqv_ints]
        have s8 := s6.trans s7
        refine iteN (fun h0 => ?_) (fun h0 => ?_)
        · have hlt2 : n < stN ds := by
            rcases Nat.lt_or_ge n (stN ds) with z | z
            · exact z
            · have : n = stN ds := by omega
              subst this
              exact absurd (row_st.mpr hN2) h0
          refine ⟨fun σ2 H2 => ∃ (lt : Addr) (ex : Option V), σ2 = [some (.ref a), some (.ref d), some (.ref lt), ex] ∧ Same (delH H a) H2 ∧ H2 a = some (.ins CC dx (couF (paceL ds) e)) ∧ Rows H2 e ds (n + 1) ∧ lt ≠ e ∧ H2 lt = some (.lst (ivs (row ds (n + 1 + 1)))), ?_, ?_⟩
          · rintro σ2 H2 ⟨lt, ex, e1, e2⟩
            exact ⟨stN ds - (n + 1), by omega, n + 1, lt, ex, e1, rfl, hlt2, e2⟩
          · refine ⟨_, rfl, a, CC, dx, _, _, rfl, s7 _ _ h6a, L.cl, L.nE, couF_early, .inl ⟨rfl, _, SqL.of (s7 _ _ w1)⟩, _, rfl, e, ws, _, rfl, rfl, s7 _ _ w1, ?_, ?_⟩
            · obtain ⟨ws', x1, x2, _⟩ := h6r
              rw [w1] at x1
              cases x1
              exact szl2 (by omega)
            · have r8 : Rows (upd H7 e (.lst (ws ++ [.ref lt]))) e ds (n + 1) := by
                obtain ⟨ws', x1, x2, x3⟩ := h6r
                rw [w1] at x1
                cases x1
                refine ⟨_, upd_same, by rw [List.length_append, x2]; rfl, fun i hi => ?_⟩
                by_cases hin : i ≤ n
                · obtain ⟨p, y1, y2, y3⟩ := x3 i hin
                  refine ⟨p, ?_, y2, by rw [upd_ne y2]; exact s7 _ _ y3⟩
                  rw [List.getElem?_append_left (by omega)]
                  exact y1
                · have : i = n + 1 := by omega
                  subst this
                  refine ⟨lt, ?_, hlt, by rw [upd_ne hlt]; exact s7 _ _ h6l⟩
                  rw [List.getElem?_append_right (by omega), x2]
                  simp
              have s9 : Same (delH H a) (upd H7 e (.lst (ws ++ [.ref lt]))) := same_mut s8 he0
              have h9a : upd H7 e (.lst (ws ++ [.ref lt])) a = some (.ins CC dx (couF (paceL ds) e)) := by rw [upd_ne (Ne.symm hea)]; exact s7 _ _ h6a
              have h9l : upd H7 e (.lst (ws ++ [.ref lt])) lt = some (.lst (ivs (row ds (n + 1)))) := by rw [upd_ne hlt]; exact s7 _ _ h6l
              generalize upd H7 e (.lst (ws ++ [.ref lt])) = H9 at *
              refine ⟨_, rfl, _, rfl, d, lt, ds, n + 1, rfl, s9.seqT hd, ne, by omega, SqL.of h9l, fun H10 l2 s10 hl2 h10 => ?_⟩
              refine ⟨l2, _, rfl, s9.trans s10, s10 _ _ h9a, r8.same s10, fun z => ?_, h10⟩
              obtain ⟨us, u1, _⟩ := r8
              rw [z, u1] at hl2
              cases hl2
        · have hst : St1 ds n := row_st.mp h0
          have en : n = stN ds := by
            rcases Nat.lt_or_ge n (stN ds) with z | z
            · exact absurd hst (hN3 n z)
            · omega
          subst en
          exact k H7 s8 ⟨a, dx, e, rfl, s7 _ _ h6a, h6r.same s7⟩
abbrev s_Course_ends : Stmt := inClass (top 19) 1
theorem sc_Course_ends : FnScope ["self", "bucket", "more", "end"] ["self", "bucket"] (defScope s_Course_ends) := ⟨rfl, rfl, rfl, by decide +kernel, rfl, by decide +kernel, by decide +kernel⟩

theorem ok_couEnds {f : Addr} {fd : FuncData} (F : FnP K "ends" "Course.ends" s_Course_ends f fd) (T : Tx mg) (L : CouT K CC) : FnOk P w K mg base CX0 1 f fd ["self", "bucket"] (spCEnds CC) := by
  refine F.ok sc_Course_ends (fun vs H Q E h => ?_) (fun cdv A outer s H vs Q E hr h => ?_)
  · obtain ⟨_, _, _, rfl, _⟩ := h
    rfl
  · obtain ⟨a, b, ds, rfl, ⟨a', dx, e, ee, ha, hr'⟩, D, hb, k⟩ := h
    cases ee
    have few := D.few
    obtain ⟨us, u1, u2, u3⟩ := id hr'
    obtain ⟨ws, q, w1, w2, w3, w4⟩ := hr'.last
    refine ⟨_, PSs.nox 
      (pss_cons (ps_if (pt_cmpR op_lt (pv 1) (pe_callB (c_len K) (by rfl) T.f_len PySem.boot_len (pa_cons (e_fld K (pv 0)) pa_nil)) (nomark _)) 
        (pss_one (ps_ret (pe_ix (ixL K) (e_fld K (pv 0)) (pv 1) (fun _ _ => rfl)))) pss_nil)
      (pss_cons (ps_set (i := 2) sc_Course_ends.nd rfl (.inr rfl) (pe_op op_add (pe_op op_sub (pv 1) (pe_callB (c_len K) (by rfl) T.f_len PySem.boot_len (pa_cons (e_fld K (pv 0)) pa_nil))) pe_int))
      (pss_one (ps_ret (pe_lc (own := [("end", 3)]) rfl sc_Course_ends.nd (iL K (pe_ix (ixL K) (e_fld K (pv 0)) (pe_un un_neg pe_int) (fun _ _ => rfl))) (blkOk_by (own := [("end", 3)]) (N := ["self", "bucket", "more", "end"]) (sc := defScope s_Course_ends) (by decide +kernel)) (fun _ _ _ _ _ => (pg_name (i := 3) sc_Course_ends.nd rfl (Or.inl rfl))) (fun _ _ _ _ _ => pts_nil) (fun _ _ _ _ _ => (pe_op op_add (pv 3) (pe_op op_mul (pv 2) (e_fld K (pv 0)))))))))), ?_⟩
    refine ⟨_, rfl, _, rfl, a, CC, dx, _, _, rfl, ha, L.cl, L.nE, couF_early, e, us, rfl, .inl (SqL.of u1), _, _, rfl, rfl, _, rfl, ?_⟩
    rw [u2]
    refine iteD (fun h0 => ?_) (fun h0 => ?_)
    · obtain ⟨p, p1, p2, p3⟩ := u3 b.toNat (by omega)
      refine ⟨_, rfl, a, CC, dx, _, _, rfl, ha, L.cl, L.nE, couF_early, _, rfl, e, us, b, _, rfl, rfl, SqL.of u1, ?_, k H p (Same.refl _) p3⟩
      rw [show b = ((b.toNat : Nat) : Int) by omega]
      exact atI_nat p1
    · refine ⟨_, rfl, _, rfl, a, CC, dx, _, _, rfl, ha, L.cl, L.nE, couF_early, e, us, rfl, .inl (SqL.of u1), _, _, rfl, rfl, _, _, rfl, rfl, ?_⟩
      rw [u2]
      have rl : (row ds (stN ds)).length = ds.length := row_len ds _
      have pp := D.pace_pos
      have pl := D.pace_le
      have em : b - ((stN ds + 1 : Nat) : Int) + 1 = b - stN ds := by omega
      refine ⟨_, rfl, a, CC, dx, _, _, rfl, ha, L.cl, L.nE, couF_early, _, rfl, e, ws, _, _, rfl, rfl, SqL.of w1, w2, q, rfl, ⟨_, SqL.of w4⟩, fun D1 hD1 => ?_⟩
      refine lc_it (walk_list (K := K) (a := q) (xs := ivs (row ds (stN ds)))) (fun i G => G = upd H D1 (.lst (ivs (((row ds (stN ds)).take i).map (· + (b - stN ds) * paceL ds))))) rfl ?_ ?_ ?_
      · rintro i G _ rfl
        exact SqL.of (same_new hD1 _ _ w4)
      · rintro i x G G' hi rfl ⟨rfl, hx⟩
        obtain ⟨u, hu, rfl⟩ := ivs_get hx
        rw [ivs_len, rl] at hi
        refine ⟨rfl, _, rfl, _, rfl, _, rfl, a, CC, dx, _, _, rfl, same_new hD1 _ _ ha, L.cl, L.nS, couF_step, _, _, rfl, rfl, .inr ⟨by omega, by omega⟩, _, _, rfl, rfl, _, upd_same, ?_, ?_⟩
        · rw [ivs_len, List.length_map]
          exact szl (Nat.lt_of_le_of_lt (List.length_take_le _ _) (by omega))
        · rw [upd_upd, List.take_add_one, hu, List.map_append, ivs_app]
          show upd H D1 (.lst (_ ++ [V.int (u + (b - ((stN ds + 1 : Nat) : Int) + 1) * paceL ds)])) = _
          rw [em]
          rfl
      · rintro G rfl
        rw [ivs_len, List.take_length]
        refine k _ D1 (same_new hD1) ?_
        rw [upd_same]
        have er : (row ds (stN ds)).map (· + (b - stN ds) * paceL ds) = row ds b.toNat := by
          unfold row
          rw [List.map_map]
          refine List.map_congr_left fun j hj => ?_
          have := stN_far D (List.mem_range.mp hj) (b := b.toNat) (by omega)
          rw [this]
          show En ds (stN ds) j + (b - stN ds) * paceL ds = _
          rw [show ((b.toNat : Nat) : Int) = b by omega]
        rw [er]
end
end Bk
/-! ### ends_of, steady_from, buckets_by, calls of a line -/
namespace Bk
open PySem PySem.Spec PyProof.Rows L2
def lastE (ds : List Int) (b : Nat) : Int := En ds b (ds.length - 1)
theorem row_last {ds : List Int} (h : 1 ≤ ds.length) (b : Nat) : atI (ivs (row ds b)) (-1) = some (.int (lastE ds b)) := by
  unfold atI ixN
  rw [ivs_len, row_len, if_neg (by omega), if_pos (by omega)]
  show (ivs (row ds b))[(-1 + (ds.length : Int)).toNat]? = _
  rw [show (-1 + (ds.length : Int)).toNat = ds.length - 1 by omega]
  exact ivs_at (row_get (by omega))
theorem En_inc {ds : List Int} (D : Dur ds) (b : Nat) {k : Nat} (hk : k < ds.length) : En ds b k + dd ds k ≤ En ds (b + 1) k := by
  cases k with
  | zero =>
    rw [Ens0]
    have := En_mono D b (min 1 (ds.length - 1)) 0
    rw [Nat.zero_add] at this
    omega
  | succ k =>
    rw [Enss]
    have h1 := En_mono D b (min (k + 2) (ds.length - 1) - (k + 1)) (k + 1)
    rw [show k + 1 + (min (k + 2) (ds.length - 1) - (k + 1)) = min (k + 2) (ds.length - 1) by omega] at h1
    have h2 := Int.le_max_left (En ds b (min (k + 2) (ds.length - 1))) (En ds (b + 1) k)
    omega
theorem lastE_inc {ds : List Int} (D : DurB ds) (b : Nat) : lastE ds b + 1 ≤ lastE ds (b + 1) := by
  have h1 := D.ne
  have := En_inc D.toDur b (k := ds.length - 1) (by omega)
  have := D.dd_pos (k := ds.length - 1) (by omega)
  unfold lastE
  omega
theorem lastE_mono {ds : List Int} (D : DurB ds) (b : Nat) : ∀ j, lastE ds b + j ≤ lastE ds (b + j)
  | 0 => by simp
  | j + 1 => by
    have := lastE_mono D b j
    have := lastE_inc D (b + j)
    rw [← Nat.add_assoc]
    omega
theorem lastE_ge {ds : List Int} (D : DurB ds) (b : Nat) : (b : Int) + 1 ≤ lastE ds b := by
  have h := lastE_mono D 0 b
  rw [Nat.zero_add] at h
  have h0 : 1 ≤ lastE ds 0 := by
    have a1 := D.ne
    have a2 := En_mono D.toDur 0 (ds.length - 1) 0
    rw [Nat.zero_add, En00] at a2
    have a3 := D.dd_pos (k := 0) (by omega)
    unfold lastE
    omega
  omega
theorem lastE_lt {ds : List Int} (D : DurB ds) {b c : Nat} (h : b < c) : lastE ds b < lastE ds c := by
  have := lastE_mono D b (c - b)
  rw [show b + (c - b) = c by omega] at this
  omega
theorem lastE_le {ds : List Int} (D : DurB ds) {b c : Nat} (h : b ≤ c) : lastE ds b ≤ lastE ds c := by
  have := lastE_mono D b (c - b)
  rw [show b + (c - b) = c by omega] at this
  omega
/-- how many buckets have come by a tick -/
def ByN (ds : List Int) (tick : Int) (n : Nat) : Prop := ∀ b, lastE ds b ≤ tick ↔ b < n
/-- when a bucket has come to the person at place k -/
def cameT (ds : List Int) (b k : Nat) : Int := if k = 0 then (if b = 0 then 0 else En ds (b - 1) 0) else En ds b (k - 1)
def spVal : Sp := fun vs H Q _ => ∃ n lo hi : Int, vs = [.int n, .int lo, .int hi] ∧ lo ≤ n ∧ n ≤ hi ∧ Q .non H
def spEnds (K : PySem.W.Frag) : Sp := fun vs H Q _ => ∃ (d : Addr) (b : Int) (ds : List Int), vs = [.ref d, .int b] ∧ SqT K H d (ivs ds) ∧ DurB ds ∧ 0 ≤ b ∧ ∀ H' p, Same H H' → H' p = some (.lst (ivs (row ds b.toNat))) → Q (.ref p) H'
def spSteady (K : PySem.W.Frag) (C : Addr) : Sp := fun vs H Q _ => ∃ (a : Addr) (ps : List Person), vs = [.ref a] ∧ IsLine K C H (.ref a) ps ∧ Valid ps ∧ ∀ H', Same H H' → Q (.int (stN (dursOf ps))) H'
def spBy (K : PySem.W.Frag) (C : Addr) : Sp := fun vs H Q _ => ∃ (a : Addr) (ps : List Person) (t : Int), vs = [.ref a, .int t] ∧ IsLine K C H (.ref a) ps ∧ Valid ps ∧ 0 ≤ t ∧ t ≤ 1000000000000000000 ∧ ∀ H' (n : Nat), ByN (dursOf ps) t n → Same H H' → Q (.int n) H'
def spPlace (K : PySem.W.Frag) (C : Addr) : Sp := fun vs H Q _ => ∃ (a : Addr) (ps : List Person) (nm : Str) (k : Nat), vs = [.ref a, .str nm] ∧ IsLine K C H (.ref a) ps ∧ Valid ps ∧ (namesOf ps)[k]? = some nm ∧ ∀ H', Same H H' → Q (.int k) H'
def spCallL (K : PySem.W.Frag) (C : Addr) : Sp := fun vs H Q _ => ∃ (a : Addr) (ps : List Person) (nm : Str) (k : Nat) (b : Int), vs = [.ref a, .int b, .str nm] ∧ IsLine K C H (.ref a) ps ∧ Valid ps ∧ (namesOf ps)[k]? = some nm ∧ 0 ≤ b ∧ b ≤ 1000000000000000000 ∧ ∀ H', Same H H' → Q (.int (cameT (dursOf ps) b.toNat k)) H'
section
variable {P : Program} {w : World} {K : PySem.W.Frag} {mg : Str → Option Value} {base : Heap} {C CC : Addr}
abbrev s_validate_number : Stmt := top 13
theorem sc_validate_number : FnScope ["number", "smallest", "largest"] ["number", "smallest", "largest"] (defScope s_validate_number) := ⟨rfl, rfl, rfl, by decide +kernel, rfl, by decide +kernel, by decide +kernel⟩

theorem ok_val {f : Addr} {fd : FuncData} (F : FnP K "validate_number" "validate_number" s_validate_number f fd) : FnOk P w K mg base CX0 1 f fd ["number", "smallest", "largest"] spVal := by
  refine F.ok sc_validate_number (fun vs H Q E h => ?_) (fun cdv A outer s H vs Q E hr h => ?_)
  · obtain ⟨_, _, _, rfl, _⟩ := h
    rfl
  · obtain ⟨n, lo, hi, rfl, h1, h2, k⟩ := h
    refine ⟨_, PSs.nox 
      (pss_one (ps_if (pt_not (pt_chain op_le op_le (pv 1) (pv 0) (pv 2))) 
        (pss_one ps_never) pss_nil)), ?_⟩
    refine ⟨_, rfl, _, rfl, _, _, rfl, rfl, _, rfl, ?_⟩
    rw [decide_eq_true h1]
    refine iteT ⟨_, rfl, _, _, rfl, rfl, _, rfl, ?_⟩
    rw [decide_eq_true h2]
    exact iteF k
theorem noEnds {s : Int} {e : Addr} : (couF s e).lookup ("ends" : Str) = none := couF_no (by decide +kernel) (by decide +kernel)
abbrev s_ends_of : Stmt := top 20
theorem sc_ends_of : FnScope ["durations", "bucket"] ["durations", "bucket"] (defScope s_ends_of) := ⟨rfl, rfl, rfl, by decide +kernel, rfl, by decide +kernel, by decide +kernel⟩

theorem ok_ends {f : Addr} {fd : FuncData} (F : FnP K "ends_of" "ends_of" s_ends_of f fd) (mkC : C8.Mak P w K mg base 2 "Course" CC (spCouB K CC) []) (mEnds : C8.Met P w K mg base 1 CC "ends" (spCEnds CC) []) : FnOk P w K mg base CX0 4 f fd ["durations", "bucket"] (spEnds K) := by
  refine F.ok sc_ends_of (fun vs H Q E h => ?_) (fun cdv A outer s H vs Q E hr h => ?_)
  · obtain ⟨_, _, _, rfl, _⟩ := h
    rfl
  · obtain ⟨d, b, ds, rfl, hd, D, hb, k⟩ := h
    refine ⟨_, PSs.nox 
      (pss_one (ps_ret (C8.pe_mt mEnds hr (by decide) (C8.pe_mk mkC hr (by decide) rfl (pa_cons (pv 0) pa_nil)) (pa_cons (pv 1) pa_nil)))), ?_⟩
    refine ⟨_, rfl, fun a dx hx hdx hne => mk_cou hd D hx hdx hne fun H1 s1 hc => ⟨rfl, ?_⟩⟩
    obtain ⟨_, dx, e, ee, ha, hr'⟩ := id hc
    cases ee
    exact ⟨a, dx, _, rfl, ha, noEnds, _, rfl, a, b, ds, rfl, hc, D, hb, fun H2 p s2 hp => k H2 p (s1.trans s2) hp⟩
abbrev s_steady_from : Stmt := top 21
theorem sc_steady_from : FnScope ["line"] ["line"] (defScope s_steady_from) := ⟨rfl, rfl, rfl, by decide +kernel, rfl, by decide +kernel, by decide +kernel⟩

theorem ok_steady {f : Addr} {fd : FuncData} (F : FnP K "steady_from" "steady_from" s_steady_from f fd) (T : Tx mg) (L : LineT K mg C) (LC : CouT K CC) (mkC : C8.Mak P w K mg base 2 "Course" CC (spCouB K CC) []) (pDur : PropC P w K mg base 1 C "durations" (spDur K C)) : FnOk P w K mg base CX0 4 f fd ["line"] (spSteady K C) := by
  refine F.ok sc_steady_from (fun vs H Q E h => ?_) (fun cdv A outer s H vs Q E hr h => ?_)
  · obtain ⟨_, _, rfl, _⟩ := h
    rfl
  · obtain ⟨a, ps, rfl, hL, hV, k⟩ := h
    obtain ⟨a', dx, p, xs, e, ha, hp, hd⟩ := id hL
    cases e
    have D := durB_of hV
    refine ⟨_, PSs.nox 
      (pss_one (ps_ret (pe_op op_sub (pe_callB (c_len K) (by rfl) T.f_len PySem.boot_len (pa_cons (e_fld K (C8.pe_mk mkC hr (by decide) rfl (pa_cons (e_prop pDur L.cl hr (by decide) (pv 0)) pa_nil))) pa_nil)) pe_int))), ?_⟩
    refine ⟨_, rfl, a, dx, _, rfl, ha, a, ps, rfl, hL, hV, fun H1 q s1 hq => ?_⟩
    refine fun c dx' hx hdx hne => mk_cou (SqT.of' hq) D hx hdx hne fun H2 s2 hc => ⟨rfl, ?_⟩
    obtain ⟨_, dx', e, ee, hc', us, u1, u2, u3⟩ := id hc
    cases ee
    refine ⟨c, CC, dx', _, _, rfl, hc', LC.cl, LC.nE, couF_early, e, us, rfl, .inl (SqL.of u1), _, _, rfl, rfl, ?_⟩
    have := k H2 (s1.trans s2)
    dsimp only
    rw [show ((us.length : Nat) : Int) - 1 = (stN (dursOf ps) : Int) by omega]
    exact this
abbrev s_buckets_by : Stmt := top 22
theorem sc_buckets_by : FnScope ["line", "tick", "course", "low", "high", "middle"] ["line", "tick"] (defScope s_buckets_by) := ⟨rfl, rfl, rfl, by decide +kernel, rfl, by decide +kernel, by decide +kernel⟩

theorem ok_by {f : Addr} {fd : FuncData} (F : FnP K "buckets_by" "buckets_by" s_buckets_by f fd) (T : Tx mg) (L : LineT K mg C) (cVal : C8.Cal P w K mg base 1 "validate_number" spVal []) (mkC : C8.Mak P w K mg base 2 "Course" CC (spCouB K CC) []) (mEnds : C8.Met P w K mg base 1 CC "ends" (spCEnds CC) []) (pDur : PropC P w K mg base 1 C "durations" (spDur K C)) : FnOk P w K mg base CX0 4 f fd ["line", "tick"] (spBy K C) := by
  refine F.ok sc_buckets_by (fun vs H Q E h => ?_) (fun cdv A outer s H vs Q E hr h => ?_)
  · obtain ⟨_, _, _, rfl, _⟩ := h
    rfl
  · obtain ⟨a, ps, t, rfl, hL, hV, t0, t1, k⟩ := h
    obtain ⟨a', dx, p, xs, e, ha, hp, hd⟩ := id hL
    cases e
    have D := durB_of hV
    refine ⟨_, PSs.nox 
      (pss_cons (ps_expr (C8.pe_c cVal hr (by decide) rfl (pa_cons (pv 1) (pa_cons pe_int (pa_cons (C8.pe_gc rfl T.g_MAX_BUCKET) pa_nil)))))
      (pss_cons (ps_set (i := 2) sc_buckets_by.nd rfl (.inl rfl) (C8.pe_mk mkC hr (by decide) rfl (pa_cons (e_prop pDur L.cl hr (by decide) (pv 0)) pa_nil)))
      (pss_cons (ps_par (i := 3) (j := 4) (by rfl) sc_buckets_by.nd rfl rfl (by decide) rfl rfl (pa_cons pe_int (pa_cons (pe_op op_add (pv 1) pe_int) pa_nil)) (by rfl))
      (pss_cons (ps_while PassesOwn.never (pt_cmpR op_lt (pv 3) (pv 4) (nomark _)) 
        (pss_cons (ps_set (i := 5) sc_buckets_by.nd rfl (.inl rfl) (pe_op op_fdivB (pe_op op_add (pv 3) (pv 4)) pe_int))
        (pss_one (ps_if (pt_cmpR op_le (pe_ix (ixL K) (C8.pe_mt mEnds hr (by decide) (pv 2) (pa_cons (pv 5) pa_nil)) (pe_un un_neg pe_int) (fun _ _ => rfl)) (pv 1) (nomark _)) 
          (pss_one (ps_set (i := 3) sc_buckets_by.nd rfl (.inl rfl) (pe_op op_add (pv 5) pe_int))) 
          (pss_one (ps_set (i := 4) sc_buckets_by.nd rfl (.inl rfl) (pv 5)))))))
      (pss_one (ps_ret (pv 3))))))), ?_⟩
    refine ⟨_, rfl, _, _, _, rfl, t0, t1, ?_⟩
    refine ⟨_, rfl, a, dx, _, rfl, ha, a, ps, rfl, hL, hV, fun H1 q s1 hq => ?_⟩
    refine fun c dx' hx hdx hne => mk_cou (SqT.of' hq) D hx hdx hne fun H2 s2 hc => ⟨rfl, ?_⟩
    obtain ⟨_, dx', e, ee, hc', us, u1, u2, u3⟩ := id hc
    cases ee
    have ne := D.ne
    refine ⟨_, rfl, _, _, rfl, rfl, _, _, rfl, ?_⟩
    refine ⟨fun m σ H' => ∃ (lo hi : Nat) (v5 : Option V), σ = [some (.ref a), some (.int t), some (.ref c), some (.int lo), some (.int hi), v5] ∧ m = hi - lo ∧ lo ≤ hi ∧ (∀ b, b < lo → lastE (dursOf ps) b ≤ t) ∧ t < lastE (dursOf ps) hi ∧ Same H2 H',
      ⟨(t + 1).toNat, 0, (t + 1).toNat, none, ?_, rfl, Nat.zero_le _, fun b hb => absurd hb (by omega), ?_, Same.refl _⟩, ?_⟩
    · show _ = [some (V.ref a), some (V.int t), some (V.ref c), some (V.int 0), some (V.int (((t + 1).toNat : Nat) : Int)), none]
      rw [show (((t + 1).toNat : Nat) : Int) = t + 1 by omega]
      rfl
    · have := lastE_ge D (t + 1).toNat
      omega
    · rintro m σ H' ⟨lo, hi, v5, rfl, rfl, hle, h1, h2, s3⟩
      refine ⟨_, rfl, _, rfl, _, _, rfl, rfl, _, rfl, iteD (fun h0 => ?_) (fun h0 => ?_)⟩
      · have em : ((lo : Int) + hi) / 2 = (((lo + hi) / 2 : Nat) : Int) := by omega
        refine ⟨fun σ2 H2' => ∃ (lo' hi' : Nat) (v5 : Option V), σ2 = [some (.ref a), some (.int t), some (.ref c), some (.int lo'), some (.int hi'), v5] ∧ hi' - lo' < hi - lo ∧ lo' ≤ hi' ∧ (∀ b, b < lo' → lastE (dursOf ps) b ≤ t) ∧ t < lastE (dursOf ps) hi' ∧ Same H2 H2', ?_, ?_⟩
        · rintro σ2 H2' ⟨lo', hi', v5, e1, e2, e3⟩
          exact ⟨hi' - lo', e2, lo', hi', v5, e1, rfl, e3⟩
        · refine ⟨_, rfl, _, rfl, _, _, rfl, rfl, _, _, rfl, rfl, ⟨by decide, by decide⟩, ?_⟩
          dsimp only
          rw [em]
          refine ⟨_, rfl, c, dx', _, rfl, s3 _ _ hc', noEnds, _, rfl, c, _, dursOf ps, rfl, hc.same s3, D, by omega, fun H4 r s4 hr4 => ?_⟩
          refine ⟨_, rfl, r, _, _, _, rfl, rfl, SqL.of hr4, row_last ne _, _, rfl, _, _, rfl, rfl, _, rfl, iteD (fun h3 => ?_) (fun h3 => ?_)⟩
          · refine ⟨_, rfl, _, _, rfl, rfl, (lo + hi) / 2 + 1, hi, _, rfl, by omega, by omega, fun b hb => ?_, h2, s3.trans s4⟩
            have h4 := lastE_le D (b := b) (c := (lo + hi) / 2) (by omega)
            rw [show ((((lo + hi) / 2 : Nat) : Int)).toNat = (lo + hi) / 2 by omega] at h3
            omega
          · refine ⟨_, rfl, lo, (lo + hi) / 2, _, rfl, by omega, by omega, h1, ?_, s3.trans s4⟩
            rw [show ((((lo + hi) / 2 : Nat) : Int)).toNat = (lo + hi) / 2 by omega] at h3
            omega
      · have e : lo = hi := by omega
        subst e
        refine ⟨_, rfl, k H' lo (fun b => ⟨fun hb => ?_, fun hb => h1 b hb⟩) ((s1.trans s2).trans s3)⟩
        rcases Nat.lt_or_ge b lo with z | z
        · exact z
        · have := lastE_le D z
          omega
abbrev s_place_of : Stmt := top 15
theorem sc_place_of : FnScope ["line", "name", "place", "known"] ["line", "name"] (defScope s_place_of) := ⟨rfl, rfl, rfl, by decide +kernel, rfl, by decide +kernel, by decide +kernel⟩

theorem ok_place {f : Addr} {fd : FuncData} (F : FnP K "place_of" "place_of" s_place_of f fd) (T : Tx mg) (L : LineT K mg C) (pNames : PropC P w K mg base 1 C "names" (spNames K C)) : FnOk P w K mg base CX0 3 f fd ["line", "name"] (spPlace K C) := by
  refine F.ok sc_place_of (fun vs H Q E h => ?_) (fun cdv A outer s H vs Q E hr h => ?_)
  · obtain ⟨_, _, _, _, rfl, _⟩ := h
    rfl
  · obtain ⟨a, ps, nm, i0, rfl, hL, hV, hk, k⟩ := h
    obtain ⟨a', dx, p, xs, e, ha, hp, hd⟩ := id hL
    cases e
    refine ⟨_, PSs.nox 
      (pss_cons (ps_for PassesOwn.never rfl (pi_enumT (by rfl) T.f_enumerate (pa_cons (e_prop pNames L.cl hr (by decide) (pv 0)) pa_nil)) (g_tup K 2 rfl (pgs_cons (pg_name (i := 2) sc_place_of.nd rfl (Or.inl rfl)) (pgs_cons (pg_name (i := 3) sc_place_of.nd rfl (Or.inl rfl)) pgs_nil))) 
        (pss_one (ps_if (pt_cmpR op_eq (pv 3) (pv 1) (nomark _)) 
          (pss_one (ps_ret (pv 2))) pss_nil)))
      (pss_one ps_never)), ?_⟩
    refine ⟨_, rfl, a, dx, _, rfl, ha, a, ps, rfl, hL, hV, fun H1 q s1 hq => ?_⟩
    have nl : ((namesOf ps).map V.str).length = ps.length := by unfold namesOf; simp
    refine ⟨q, _, rfl, SqT.of' hq, for_it (walk_enumT (K := K) (a := q) (ys0 := (namesOf ps).map V.str)) (fun i σ H' => ∃ v2 v3, σ = [some (.ref a), some (.str nm), v2, v3] ∧ Same H1 H' ∧ i ≤ i0) ⟨none, none, rfl, Same.refl _, Nat.zero_le _⟩ ?_ ?_ ?_⟩
    · rintro i σ H' _ ⟨_, _, _, s2, _⟩
      exact s2.seqT (SqT.of' hq)
    · rintro i x σ H' H2 hi ⟨v2, v3, rfl, s2, hi0⟩ ⟨t, _, y, rfl, ht, rfl, ei, hx⟩
      cases ei
      have hx' : ((namesOf ps).map V.str)[i]? = some y := hx
      rw [List.getElem?_map] at hx'
      cases e : (namesOf ps)[i]? with
      | none => rw [e] at hx'; cases hx'
      | some z =>
        rw [e] at hx'
        cases hx'
        refine ⟨t, _, rfl, SqT.of' upd_same, rfl, _, _, rfl, _, _, rfl, rfl, ?_⟩
        refine ⟨_, rfl, _, rfl, rfl, _, rfl, iteD (fun h0 => ?_) (fun h0 => ?_)⟩
        · have hz : z = nm := vstr.mp h0
          subst hz
          have : i = i0 := by
            have nd := hV.nd
            have h1 : i < (ps.map (·.1)).length := (List.getElem?_eq_some_iff.mp e).1
            exact (List.getElem?_inj h1 nd).mp (e.trans hk.symm)
          subst this
          exact ⟨_, rfl, k _ ((s1.trans s2).trans (same_new ht))⟩
        · refine ⟨_, _, rfl, s2.trans (same_new ht), ?_⟩
          rcases Nat.lt_or_ge i i0 with hlt | hge
          · exact hlt
          · have : i = i0 := by omega
            subst this
            rw [hk] at e
            cases e
            exact absurd rfl h0
    · rintro σ H' ⟨v2, v3, rfl, s2, hi0⟩
      have h1 : i0 < (namesOf ps).length := (List.getElem?_eq_some_iff.mp hk).1
      rw [List.length_map] at hi0
      omega
abbrev s_Line___call__ : Stmt := inClass (top 14) 16
theorem sc_Line___call__ : FnScope ["self", "bucket", "name", "place"] ["self", "bucket", "name"] (defScope s_Line___call__) := ⟨rfl, rfl, rfl, by decide +kernel, rfl, by decide +kernel, by decide +kernel⟩

theorem ok_call {f : Addr} {fd : FuncData} (F : FnP K "__call__" "Line.__call__" s_Line___call__ f fd) (T : Tx mg) (L : LineT K mg C) (cVal : C8.Cal P w K mg base 1 "validate_number" spVal []) (cPlace : C8.Cal P w K mg base 3 "place_of" (spPlace K C) []) (cEnds : C8.Cal P w K mg base 4 "ends_of" (spEnds K) []) (pDur : PropC P w K mg base 1 C "durations" (spDur K C)) : FnOk P w K mg base CX0 5 f fd ["self", "bucket", "name"] (spCallL K C) := by
  refine F.ok sc_Line___call__ (fun vs H Q E h => ?_) (fun cdv A outer s H vs Q E hr h => ?_)
  · obtain ⟨_, _, _, _, _, rfl, _⟩ := h
    rfl
  · obtain ⟨a, ps, nm, i0, b, rfl, hL, hV, hk, b0, b1, k⟩ := h
    have D := durB_of hV
    refine ⟨_, PSs.nox 
      (pss_cons (ps_expr (C8.pe_c cVal hr (by decide) rfl (pa_cons (pv 1) (pa_cons pe_int (pa_cons (C8.pe_gc rfl T.g_MAX_BUCKET) pa_nil)))))
      (pss_cons (ps_set (i := 3) sc_Line___call__.nd rfl (.inl rfl) (C8.pe_c cPlace hr (by decide) rfl (pa_cons (pv 0) (pa_cons (pv 2) pa_nil))))
      (pss_cons (ps_if (pt_cmpR op_eq (pv 3) pe_int (nomark _)) 
        (pss_one (ps_ret (pe_ifExp (pt_cmpR op_eq (pv 1) pe_int (nomark _)) pe_int (pe_ix (ixL K) (C8.pe_c cEnds hr (by decide) rfl (pa_cons (e_prop pDur L.cl hr (by decide) (pv 0)) (pa_cons (pe_op op_sub (pv 1) pe_int) pa_nil))) pe_int (fun _ _ => rfl))))) pss_nil)
      (pss_one (ps_ret (pe_ix (ixL K) (C8.pe_c cEnds hr (by decide) rfl (pa_cons (e_prop pDur L.cl hr (by decide) (pv 0)) (pa_cons (pv 1) pa_nil))) (pe_op op_sub (pv 3) pe_int) (fun _ _ => rfl))))))), ?_⟩
    refine ⟨_, rfl, _, _, _, rfl, b0, b1, ?_⟩
    refine ⟨_, rfl, _, rfl, a, ps, nm, i0, rfl, hL, hV, hk, fun H1 s1 => ?_⟩
    have hL1 := hL.same s1
    obtain ⟨a', dx, p, xs, e, ha, hp, hd⟩ := id hL1
    cases e
    have i0l : i0 < ps.length := by
      have := (List.getElem?_eq_some_iff.mp hk).1
      unfold namesOf at this
      rw [List.length_map] at this
      exact this
    have dl := dursOf_len ps
    refine ⟨_, rfl, rfl, _, rfl, iteD (fun h0 => ?_) (fun h0 => ?_)⟩
    · have e0 : i0 = 0 := by have := vint.mp h0; omega
      refine ⟨_, rfl, rfl, _, rfl, iteD (fun h1 => ?_) (fun h1 => ?_)⟩
      · have e1 : b = 0 := vint.mp h1
        subst e1
        have := k H1 s1
        rw [show cameT (dursOf ps) (0 : Int).toNat i0 = 0 by unfold cameT; rw [if_pos e0]; rfl] at this
        exact this
      · have e1 : b ≠ 0 := fun z => h1 (vint.mpr z)
        refine ⟨_, rfl, a, dx, _, rfl, ha, a, ps, rfl, hL1, hV, fun H2 q s2 hq => ?_⟩
        refine ⟨_, rfl, _, _, rfl, rfl, q, _, _, rfl, SqT.of' hq, D, by omega, fun H3 r s3 hr3 => ?_⟩
        refine ⟨r, _, _, .int (En (dursOf ps) (b - 1).toNat 0), rfl, rfl, SqL.of hr3, atI_nat (j := 0) (ivs_at (row_get (by have := D.ne; omega))), ?_⟩
        have := k H3 ((s1.trans s2).trans s3)
        rw [show cameT (dursOf ps) b.toNat i0 = En (dursOf ps) (b - 1).toNat 0 by unfold cameT; rw [if_pos e0, if_neg (by omega), show b.toNat - 1 = (b - 1).toNat by omega]] at this
        exact this
    · have e0 : i0 ≠ 0 := fun z => h0 (vint.mpr (by omega))
      refine ⟨_, rfl, a, dx, _, rfl, ha, a, ps, rfl, hL1, hV, fun H2 q s2 hq => ?_⟩
      refine ⟨_, rfl, q, _, _, rfl, SqT.of' hq, D, b0, fun H3 r s3 hr3 => ?_⟩
      refine ⟨_, rfl, _, _, rfl, rfl, r, _, _, .int (En (dursOf ps) b.toNat (i0 - 1)), rfl, rfl, SqL.of hr3, ?_, ?_⟩
      · rw [show (i0 : Int) - 1 = ((i0 - 1 : Nat) : Int) by omega]
        exact atI_nat (ivs_at (row_get (by omega)))
      · have := k H3 ((s1.trans s2).trans s3)
        rw [show cameT (dursOf ps) b.toNat i0 = En (dursOf ps) b.toNat (i0 - 1) by unfold cameT; rw [if_neg e0]] at this
        exact this
end
end Bk
/-! ### fires, plainly -/
namespace Bk
theorem lastE_slow {ds : List Int} (D : DurB ds) (b : Nat) : ((b : Int) + 1) * paceL ds ≤ lastE ds b := by
  have ne := D.ne
  by_cases h1 : ds.length = 1
  · have e : paceL ds = dd ds 0 := by unfold paceL; rw [if_pos h1]
    unfold lastE
    rw [h1]
    induction b with
    | zero => rw [En00, e]; simp
    | succ b ih =>
      rw [Ens0, h1]
      have e2 : (((b + 1 : Nat) : Int) + 1) * paceL ds = ((b : Int) + 1) * paceL ds + paceL ds := by
        rw [Int.natCast_succ, Int.add_mul _ 1, Int.one_mul]
      have e3 : min 1 (1 - 1) = 0 := rfl
      rw [e2, e3]
      have : En ds b 0 = En ds b (1 - 1) := rfl
      omega
  · obtain ⟨k, hk, e⟩ := pace_at (ds := ds) (by omega)
    have key : ∀ b : Nat, ((b : Int) + 1) * paceL ds ≤ En ds b (k + 1) := by
      intro b
      induction b with
      | zero =>
        have a1 := En_up D.toDur 0 k
        have a2 : dd ds k ≤ En ds 0 k := by
          cases k with
          | zero => rw [En00]; exact Int.le_refl _
          | succ k =>
            have := En_nn D.toDur 0 k (by omega)
            rw [En0s]
            omega
        rw [show (((0 : Nat) : Int) + 1) * paceL ds = paceL ds by simp]
        omega
      | succ b ih =>
        have a1 := En_next D.toDur b k hk
        have a2 := En_up D.toDur (b + 1) k
        have e2 : (((b + 1 : Nat) : Int) + 1) * paceL ds = ((b : Int) + 1) * paceL ds + paceL ds := by
          rw [Int.natCast_succ, Int.add_mul _ 1, Int.one_mul]
        rw [e2]
        omega
    have h2 := En_mono D.toDur b (ds.length - 1 - (k + 1)) (k + 1)
    rw [show k + 1 + (ds.length - 1 - (k + 1)) = ds.length - 1 by omega] at h2
    have := key b
    unfold lastE
    omega
theorem lastE_top {ds : List Int} (D : DurB ds) : ∀ b : Nat, lastE ds b ≤ 11000 + b * paceL ds
  | 0 => by
    have := En0_le D (ds.length - 1)
    have := D.few
    have := D.ne
    unfold lastE
    simp only [Int.natCast_zero, Int.zero_mul]
    omega
  | b + 1 => by
    have h1 := lastE_top D b
    have h2 := En_le D.toDur b (ds.length - 1) (by have := D.ne; omega)
    rw [show ((b + 1 : Nat) : Int) * paceL ds = b * paceL ds + paceL ds by rw [Int.natCast_succ, Int.add_mul, Int.one_mul]]
    unfold lastE at *
    omega
theorem lastE_far {ds : List Int} (D : DurB ds) (m : Nat) : lastE ds (stN ds + m) = lastE ds (stN ds) + m * paceL ds := by
  unfold lastE
  have := stN_far D (k := ds.length - 1) (by have := D.ne; omega) (b := stN ds + m) (by omega)
  rw [this, show ((stN ds + m : Nat) : Int) - stN ds = m by omega]
/-- what is left of a fire -/
def leftF (s g w b t : Int) : Int := s + g * t - w * (b + 1)
def leftB (ds : List Int) (s g w : Int) (b : Nat) : Int := leftF s g w b (lastE ds b)
theorem leftB_far {ds : List Int} (D : DurB ds) (s g w : Int) (m : Nat) : leftB ds s g w (stN ds + m) = leftB ds s g w (stN ds) - m * (w - g * paceL ds) := by
  unfold leftB leftF
  rw [lastE_far D, Int.mul_add, Int.mul_sub, show ((stN ds + m : Nat) : Int) + 1 = ((stN ds : Int) + 1) + m by omega, Int.mul_add w]
  have e1 : g * ((m : Int) * paceL ds) = (m : Int) * (g * paceL ds) := by rw [← Int.mul_assoc, Int.mul_comm g, Int.mul_assoc]
  have e2 : w * (m : Int) = (m : Int) * w := Int.mul_comm _ _
  rw [e1, e2]
  omega
/-- a fire that grows too fast is never out -/
theorem leftB_pos {ds : List Int} (D : DurB ds) {s g w : Int} (hs : 1 ≤ s) (hg : 0 ≤ g) (h : w ≤ g * paceL ds) (b : Nat) : 1 ≤ leftB ds s g w b := by
  unfold leftB leftF
  have h1 := Int.mul_le_mul_of_nonneg_left (lastE_slow D b) hg
  have h2 := Int.mul_le_mul_of_nonneg_right h (show (0 : Int) ≤ (b : Int) + 1 by omega)
  have e : g * (((b : Int) + 1) * paceL ds) = g * paceL ds * ((b : Int) + 1) := by rw [Int.mul_comm ((b : Int) + 1), Int.mul_assoc]
  omega
/-- the first bucket with which a fire is out -/
structure OutAt (ds : List Int) (s g w : Int) (b : Nat) : Prop where
  out : leftB ds s g w b ≤ 0
  fst : ∀ j, j < b → 1 ≤ leftB ds s g w j
theorem OutAt.gain {ds : List Int} {s g w : Int} {b : Nat} (h : OutAt ds s g w b) (D : DurB ds) (hs : 1 ≤ s) (hg : 0 ≤ g) : g * paceL ds < w := by
  rcases Int.lt_or_le (g * paceL ds) w with z | z
  · exact z
  · have := leftB_pos D hs hg z b
    have := h.out
    omega
theorem OutAt.le {ds : List Int} {s g w : Int} {b : Nat} (h : OutAt ds s g w b) (D : DurB ds) (hs : 1 ≤ s) (hg : 0 ≤ g) : (b : Int) ≤ s + g * 11000 + 1 := by
  have hgain := h.gain D hs hg
  cases b with
  | zero =>
    have : 0 ≤ g * 11000 := Int.mul_nonneg hg (by decide)
    omega
  | succ b =>
    have h1 := h.fst b (by omega)
    unfold leftB leftF at h1
    have h2 := Int.mul_le_mul_of_nonneg_left (lastE_top D b) hg
    rw [Int.mul_add] at h2
    have e : g * ((b : Int) * paceL ds) = (b : Int) * (g * paceL ds) := by rw [← Int.mul_assoc, Int.mul_comm g, Int.mul_assoc]
    have h3 : (b : Int) * (g * paceL ds + 1) ≤ (b : Int) * w := Int.mul_le_mul_of_nonneg_left (by omega) (by omega)
    rw [Int.mul_add, Int.mul_one] at h3
    rw [Int.mul_add, Int.mul_one, Int.mul_comm w] at h1
    have : 0 ≤ g * paceL ds := Int.mul_nonneg hg D.pace_nn
    omega
theorem OutAt.uniq {ds : List Int} {s g w : Int} {b c : Nat} (h : OutAt ds s g w b) (k : OutAt ds s g w c) : b = c := by
  rcases Nat.lt_trichotomy b c with z | z | z
  · have := k.fst b z
    have := h.out
    omega
  · exact z
  · have := h.fst c z
    have := k.out
    omega
theorem ceil_spec {x y : Int} (hy : 0 < y) : x ≤ (x + y - 1) / y * y ∧ (x + y - 1) / y * y ≤ x + y - 1 := by
  have h1 := Int.emod_def (x + y - 1) y
  have h2 := Int.emod_nonneg (x + y - 1) (show y ≠ 0 by omega)
  have h3 := Int.emod_lt_of_pos (x + y - 1) hy
  have e : (x + y - 1) / y * y = y * ((x + y - 1) / y) := Int.mul_comm _ _
  omega
theorem out_far {ds : List Int} (D : DurB ds) {s g w : Int} (h : ∀ j, j ≤ stN ds → 1 ≤ leftB ds s g w j) (hg : 0 < w - g * paceL ds) :
    ∃ m : Nat, ((leftB ds s g w (stN ds) + (w - g * paceL ds) - 1) / (w - g * paceL ds) = (m : Int)) ∧ OutAt ds s g w (stN ds + m) := by
  have hx := h (stN ds) (Nat.le_refl _)
  obtain ⟨c1, c2⟩ := ceil_spec (x := leftB ds s g w (stN ds)) hg
  have hq : 0 ≤ (leftB ds s g w (stN ds) + (w - g * paceL ds) - 1) / (w - g * paceL ds) := Int.ediv_nonneg (by omega) (by omega)
  refine ⟨((leftB ds s g w (stN ds) + (w - g * paceL ds) - 1) / (w - g * paceL ds)).toNat, by omega, ?_, fun j hj => ?_⟩
  · rw [leftB_far D, Int.toNat_of_nonneg hq]
    omega
  · by_cases hjn : j ≤ stN ds
    · exact h j hjn
    · have e := leftB_far D s g w (j - stN ds)
      rw [show stN ds + (j - stN ds) = j by omega] at e
      rw [e]
      have h4 : ((j - stN ds : Nat) : Int) + 1 ≤ (leftB ds s g w (stN ds) + (w - g * paceL ds) - 1) / (w - g * paceL ds) := by omega
      have h5 := Int.mul_le_mul_of_nonneg_right h4 (show (0 : Int) ≤ w - g * paceL ds by omega)
      rw [Int.add_mul, Int.one_mul] at h5
      omega
theorem never_far {ds : List Int} (D : DurB ds) {s g w : Int} (h : ∀ j, j ≤ stN ds → 1 ≤ leftB ds s g w j) (hg : w - g * paceL ds ≤ 0) (b : Nat) : 1 ≤ leftB ds s g w b := by
  by_cases hb : b ≤ stN ds
  · exact h b hb
  · have e := leftB_far D s g w (b - stN ds)
    rw [show stN ds + (b - stN ds) = b by omega] at e
    rw [e]
    have h1 := h (stN ds) (Nat.le_refl _)
    have h2 : ((b - stN ds : Nat) : Int) * (w - g * paceL ds) ≤ 0 := Int.mul_nonpos_of_nonneg_of_nonpos (by omega) hg
    omega
/-- the greatest fire that is put out by the first n buckets -/
structure Best (ds : List Int) (g w : Int) (n : Nat) (m : Int) : Prop where
  nn : 0 ≤ m
  ge : ∀ b, b < n → w * ((b : Int) + 1) - g * lastE ds b ≤ m
  at_ : m = 0 ∨ ∃ b, b < n ∧ m = w * ((b : Int) + 1) - g * lastE ds b
theorem Best.uniq {ds : List Int} {g w : Int} {n : Nat} {m k : Int} (h : Best ds g w n m) (h2 : Best ds g w n k) : m = k := by
  refine Int.le_antisymm ?_ ?_
  · rcases h.at_ with e | ⟨b, hb, e⟩
    · rw [e]; exact h2.nn
    · rw [e]; exact h2.ge b hb
  · rcases h2.at_ with e | ⟨b, hb, e⟩
    · rw [e]; exact h.nn
    · rw [e]; exact h.ge b hb
/-- between two ends of a straight row -/
theorem straight {x y d : Int} {m k : Nat} (hk : k ≤ m) (hx : x ≤ y) (hm : x + m * d ≤ y) : x + k * d ≤ y := by
  rcases Int.lt_or_le 0 d with z | z
  · have := Int.mul_le_mul_of_nonneg_right (show (k : Int) ≤ m by omega) (show 0 ≤ d by omega)
    omega
  · have := Int.mul_nonpos_of_nonneg_of_nonpos (show (0 : Int) ≤ k by omega) z
    omega
theorem best_of {ds : List Int} (D : DurB ds) {g w : Int} {n : Nat} {m : Int} (nn : 0 ≤ m) (h1 : ∀ b, b < n → b ≤ stN ds → w * ((b : Int) + 1) - g * lastE ds b ≤ m) (h2 : ∀ b, b + 1 = n → w * ((b : Int) + 1) - g * lastE ds b ≤ m)
    (h3 : m = 0 ∨ ∃ b, b < n ∧ m = w * ((b : Int) + 1) - g * lastE ds b) : Best ds g w n m := by
  refine ⟨nn, fun b hb => ?_, h3⟩
  by_cases hbn : b ≤ stN ds
  · exact h1 b hb hbn
  · have a1 := h1 (stN ds) (by omega) (Nat.le_refl _)
    have a2 := h2 (n - 1) (by omega)
    have f : ∀ c : Nat, stN ds ≤ c → w * ((c : Int) + 1) - g * lastE ds c = (w * ((stN ds : Int) + 1) - g * lastE ds (stN ds)) + ((c - stN ds : Nat) : Int) * (w - g * paceL ds) := by
      intro c hc
      have e := leftB_far D 0 g w (c - stN ds)
      rw [show stN ds + (c - stN ds) = c by omega] at e
      unfold leftB leftF at e
      omega
    rw [f b (by omega)]
    rw [f (n - 1) (by omega)] at a2
    exact straight (m := n - 1 - stN ds) (by omega) a1 a2
end Bk
/-! ### fires -/
namespace Bk
open PySem PySem.Spec PyProof.Rows L2
def firF (s g w : Int) : List (Str × V) := [("whole", .int s), ("growth", .int g), ("water", .int w)]
theorem firF_whole {s g w : Int} : (firF s g w).lookup ("whole" : Str) = some (.int s) := by
  unfold firF
  simp [List.lookup]
theorem firF_growth {s g w : Int} : (firF s g w).lookup ("growth" : Str) = some (.int g) := by
  unfold firF
  have h : (("growth" : Str) == ("whole" : Str)) = false := by decide +kernel
  simp [List.lookup, h]
theorem firF_water {s g w : Int} : (firF s g w).lookup ("water" : Str) = some (.int w) := by
  unfold firF
  have h : (("water" : Str) == ("whole" : Str)) = false := by decide +kernel
  have h2 : (("water" : Str) == ("growth" : Str)) = false := by decide +kernel
  simp [List.lookup, h, h2]
theorem firF_left {s g w : Int} : (firF s g w).lookup ("left" : Str) = none := by
  unfold firF
  have h : (("left" : Str) == ("whole" : Str)) = false := by decide +kernel
  have h2 : (("left" : Str) == ("growth" : Str)) = false := by decide +kernel
  have h3 : (("left" : Str) == ("water" : Str)) = false := by decide +kernel
  simp [List.lookup, h, h2, h3]
theorem firF_two {s g : Int} : putF "growth" (.int g) (putF "whole" (.int s) []) = [(("whole" : Str), V.int s), (("growth" : Str), V.int g)] := by
  have h : ¬ ("whole" : Str) = "growth" := by decide +kernel
  show (if ("whole" : Str) = "growth" then _ else (("whole" : Str), V.int s) :: [(("growth" : Str), V.int g)]) = _
  rw [if_neg h]
theorem firF_new {s g w : Int} : putF "water" (.int w) (putF "growth" (.int g) (putF "whole" (.int s) [])) = firF s g w := by
  have h : ¬ ("whole" : Str) = "growth" := by decide +kernel
  have h2 : ¬ ("whole" : Str) = "water" := by decide +kernel
  have h3 : ¬ ("growth" : Str) = "water" := by decide +kernel
  rw [firF_two]
  show (if ("whole" : Str) = "water" then _ else (("whole" : Str), V.int s) :: (if ("growth" : Str) = "water" then _ else (("growth" : Str), V.int g) :: [(("water" : Str), V.int w)])) = _
  rw [if_neg h2, if_neg h3]
  rfl
structure FirT (K : PySem.W.Frag) (CF : Addr) : Prop where
  cl : Cls K CF
  n1 : NoAttr K CF "whole"
  n2 : NoAttr K CF "growth"
  n3 : NoAttr K CF "water"
structure FireOk (s g w : Int) : Prop where
  s0 : 1 ≤ s
  s1 : s ≤ 1000000000000000
  g0 : 0 ≤ g
  g1 : g ≤ 1000000
  w0 : 1 ≤ w
  w1 : w ≤ 1000000000
def IsFire (CF : Addr) (H : Hp) (v : V) (s g w : Int) : Prop := ∃ a dx, v = .ref a ∧ H a = some (.ins CF dx (firF s g w))
theorem IsFire.same {CF : Addr} {H H' : Hp} {v : V} {s g w : Int} (h : IsFire CF H v s g w) (e : Same H H') : IsFire CF H' v s g w := by
  obtain ⟨a, dx, h1, h2⟩ := h
  exact ⟨a, dx, h1, e _ _ h2⟩
def spFireB (CF : Addr) : Sp := fun vs H Q _ => ∃ (a dx : Addr) (s g w : Int), vs = [.ref a, .int s, .int g, .int w] ∧ H a = some (.ins CF dx []) ∧ FireOk s g w ∧ ∀ H', Same (delH H a) H' → IsFire CF H' (.ref a) s g w → Q .non H'
theorem mk_fire {CF : Addr} {H : Hp} {x dx : Addr} {s g w : Int} {R : VK} {E : XK} (hx : H x = Option.none) (hdx : H dx = Option.none) (hne : dx ≠ x) (ok : FireOk s g w) (k : ∀ H', Same H H' → IsFire CF H' (.ref x) s g w → R .non H') :
    spFireB CF [V.ref x, .int s, .int g, .int w] (upd (upd H dx (.own x)) x (.ins CF dx [])) R E := by
  have s1 : Same H (upd H dx (.own x)) := same_new hdx
  have s2 : Same H (delH (upd (upd H dx (.own x)) x (.ins CF dx [])) x) := fun b o e => by
    rw [delH_ne (ne_of_none e hx), upd_ne (ne_of_none e hx)]
    exact s1 b o e
  exact ⟨x, dx, s, g, w, rfl, upd_same, ok, fun H' s3 hc => k H' (s2.trans s3) hc⟩
def spLeft (CF : Addr) : Sp := fun vs H Q _ => ∃ (a : Addr) (s g w b t : Int), vs = [.ref a, .int b, .int t] ∧ IsFire CF H (.ref a) s g w ∧ FireOk s g w ∧ Q (.int (leftF s g w b t)) H
/-- what put_out returns -/
def FoundV (ds : List Int) (s g w : Int) (H : Hp) (v : V) : Prop := (v = .non ∧ ∀ b, 1 ≤ leftB ds s g w b) ∨ ∃ t b, v = .ref t ∧ OutAt ds s g w b ∧ H t = some (.tup [.int (b : Nat), .int (lastE ds b)])
def spPut (K : PySem.W.Frag) (C CF : Addr) : Sp := fun vs H Q _ => ∃ (a f : Addr) (ps : List Person) (s g w : Int), vs = [.ref a, .ref f] ∧ IsLine K C H (.ref a) ps ∧ Valid ps ∧ IsFire CF H (.ref f) s g w ∧ FireOk s g w ∧
  ∀ H' v, Same H H' → FoundV (dursOf ps) s g w H' v → Q v H'
def spLarge (K : PySem.W.Frag) (C : Addr) : Sp := fun vs H Q _ => ∃ (a : Addr) (ps : List Person) (g w t : Int), vs = [.ref a, .int g, .int w, .int t] ∧ IsLine K C H (.ref a) ps ∧ Valid ps ∧ FireOk 1 g w ∧ 0 ≤ t ∧ t ≤ 1000000000000000000 ∧
  ∀ H' n m, Same H H' → ByN (dursOf ps) t n → Best (dursOf ps) g w n m → Q (.int m) H'
section
variable {P : Program} {w : World} {K : PySem.W.Frag} {mg : Str → Option Value} {base : Heap} {C CC CF : Addr}
abbrev s_Fire___init__ : Stmt := inClass (top 27) 0
theorem sc_Fire___init__ : FnScope ["self", "size", "growth", "water", "parts", "part", "value", "smallest", "largest"] ["self", "size", "growth", "water"] (defScope s_Fire___init__) := ⟨rfl, rfl, rfl, by decide +kernel, rfl, by decide +kernel, by decide +kernel⟩

theorem ok_fireInit {f : Addr} {fd : FuncData} (F : FnP K "__init__" "Fire.__init__" s_Fire___init__ f fd) (T : Tx mg) (L : FirT K CF) : FnOk P w K mg base CX0 1 f fd ["self", "size", "growth", "water"] (spFireB CF) := by
  refine F.ok sc_Fire___init__ (fun vs H Q E h => ?_) (fun cdv A outer s H vs Q E hr h => ?_)
  · obtain ⟨_, _, _, _, _, rfl, _⟩ := h
    rfl
  · obtain ⟨a, dx, sz, g, wt, rfl, ha, ok, k⟩ := h
    refine ⟨_, PSs.nox 
      (pss_cons (ps_set (i := 4) sc_Fire___init__.nd rfl (.inl rfl) (pe_lst (pa_cons (pe_tup (pa_cons pe_str (pa_cons (pv 1) (pa_cons pe_int (pa_cons (C8.pe_gc rfl T.g_MAX_FIRE) pa_nil))))) (pa_cons (pe_tup (pa_cons pe_str (pa_cons (pv 2) (pa_cons pe_int (pa_cons (C8.pe_gc rfl T.g_MAX_GROWTH) pa_nil))))) (pa_cons (pe_tup (pa_cons pe_str (pa_cons (pv 3) (pa_cons pe_int (pa_cons (C8.pe_gc rfl T.g_MAX_WATER) pa_nil))))) pa_nil)))))
      (pss_cons (ps_for PassesOwn.never rfl (iL K (pv 4)) (g_tup K 4 rfl (pgs_cons (pg_name (i := 5) sc_Fire___init__.nd rfl (Or.inl rfl)) (pgs_cons (pg_name (i := 6) sc_Fire___init__.nd rfl (Or.inl rfl)) (pgs_cons (pg_name (i := 7) sc_Fire___init__.nd rfl (Or.inl rfl)) (pgs_cons (pg_name (i := 8) sc_Fire___init__.nd rfl (Or.inl rfl)) pgs_nil))))) 
        (pss_one (ps_if (pt_not (pt_chain op_le op_le (pv 7) (pv 6) (pv 8))) 
          (pss_one ps_never) pss_nil)))
      (pss_cons (ps_fld (pv 0) (pv 1) rfl)
      (pss_cons (ps_fld (pv 0) (pv 2) rfl)
      (pss_one (ps_fld (pv 0) (pv 3) rfl)))))), ?_⟩
    refine ⟨_, rfl, (by show 4 ≤ sizeLine; decide), fun t1 ht1 => ?_⟩
    have s1 := same_new (o := .tup [.str "size", .int sz, .int 1, .int 1000000000000000]) ht1
    have g1 : upd H t1 (.tup [.str "size", .int sz, .int 1, .int 1000000000000000]) t1 = _ := upd_same
    generalize upd H t1 (.tup [.str "size", .int sz, .int 1, .int 1000000000000000]) = H1 at *
    refine ⟨_, rfl, (by show 4 ≤ sizeLine; decide), fun t2 ht2 => ?_⟩
    have s2 := same_new (o := .tup [.str "growth", .int g, .int 0, .int 1000000]) ht2
    have g2 : upd H1 t2 (.tup [.str "growth", .int g, .int 0, .int 1000000]) t2 = _ := upd_same
    generalize upd H1 t2 (.tup [.str "growth", .int g, .int 0, .int 1000000]) = H2 at *
    refine ⟨_, rfl, (by show 4 ≤ sizeLine; decide), fun t3 ht3 => ?_⟩
    have s3 := same_new (o := .tup [.str "water", .int wt, .int 1, .int 1000000000]) ht3
    have g3 : upd H2 t3 (.tup [.str "water", .int wt, .int 1, .int 1000000000]) t3 = _ := upd_same
    generalize upd H2 t3 (.tup [.str "water", .int wt, .int 1, .int 1000000000]) = H3 at *
    refine ⟨(by show 3 ≤ sizeLine; decide), fun pl hpl => ?_⟩
    have s4 := same_new (o := .lst [.ref t1, .ref t2, .ref t3]) hpl
    have g4 : upd H3 pl (.lst [.ref t1, .ref t2, .ref t3]) pl = _ := upd_same
    generalize upd H3 pl (.lst [.ref t1, .ref t2, .ref t3]) = H4 at *
    have s04 : Same H H4 := ((s1.trans s2).trans s3).trans s4
    have items : ∀ (i : Nat) (x : V), ([V.ref t1, .ref t2, .ref t3] : List V)[i]? = some x → ∃ (t : Addr) (nm : Str) (v lo hi : Int), x = .ref t ∧ H4 t = some (.tup [.str nm, .int v, .int lo, .int hi]) ∧ lo ≤ v ∧ v ≤ hi := by
      intro i x hx
      match i, hx with
      | 0, hx => cases hx; exact ⟨_, _, _, _, _, rfl, s4 _ _ (s3 _ _ (s2 _ _ g1)), ok.s0, ok.s1⟩
      | 1, hx => cases hx; exact ⟨_, _, _, _, _, rfl, s4 _ _ (s3 _ _ g2), ok.g0, ok.g1⟩
      | 2, hx => cases hx; exact ⟨_, _, _, _, _, rfl, s4 _ _ g3, ok.w0, ok.w1⟩
      | i + 3, hx => simp at hx
    refine ⟨_, rfl, pl, rfl, ⟨_, SqL.of g4⟩, for_it (walk_list (K := K) (a := pl) (xs := [.ref t1, .ref t2, .ref t3])) (fun i σ H' => ∃ v5 v6 v7 v8, σ = [some (.ref a), some (.int sz), some (.int g), some (.int wt), some (.ref pl), v5, v6, v7, v8] ∧ H' = H4) ⟨none, none, none, none, rfl, rfl⟩ ?_ ?_ ?_⟩
    · rintro i σ H' _ ⟨_, _, _, _, _, rfl⟩
      exact SqL.of g4
    · rintro i x σ H' H5 hi ⟨v5, v6, v7, v8, rfl, rfl⟩ ⟨rfl, hx⟩
      obtain ⟨t, nm, v, lo, hi, rfl, ht, hlo, hhi⟩ := items i x hx
      refine ⟨t, _, rfl, SqT.of' ht, rfl, _, _, rfl, _, _, rfl, _, _, rfl, _, _, rfl, rfl, ?_⟩
      refine ⟨_, rfl, _, rfl, _, _, rfl, rfl, _, rfl, ?_⟩
      rw [decide_eq_true hlo]
      refine iteT ⟨_, rfl, _, _, rfl, rfl, _, rfl, ?_⟩
      rw [decide_eq_true hhi]
      exact iteF ⟨_, _, _, _, rfl, rfl⟩
    · rintro σ H' ⟨v5, v6, v7, v8, rfl, rfl⟩
      refine ⟨_, rfl, _, rfl, a, CF, dx, _, rfl, s04 _ _ ha, L.cl, L.n1, (by show 0 < 1000; decide), ?_⟩
      refine ⟨_, rfl, _, rfl, a, CF, dx, _, rfl, upd_same, L.cl, L.n2, (by show 1 < 1000; decide), ?_⟩
      rw [upd_upd]
      refine ⟨_, rfl, _, rfl, a, CF, dx, _, rfl, upd_same, L.cl, L.n3, ?_, ?_⟩
      · rw [firF_two]
        show 2 < 1000
        decide
      rw [upd_upd, firF_new]
      exact k _ (same_mut (same_del.trans s04) delH_same) ⟨a, dx, rfl, upd_same⟩
abbrev s_Fire_left : Stmt := inClass (top 27) 1
theorem sc_Fire_left : FnScope ["self", "bucket", "tick"] ["self", "bucket", "tick"] (defScope s_Fire_left) := ⟨rfl, rfl, rfl, by decide +kernel, rfl, by decide +kernel, by decide +kernel⟩

theorem ok_left {f : Addr} {fd : FuncData} (F : FnP K "left" "Fire.left" s_Fire_left f fd) (T : Tx mg) (L : FirT K CF) : FnOk P w K mg base CX0 1 f fd ["self", "bucket", "tick"] (spLeft CF) := by
  refine F.ok sc_Fire_left (fun vs H Q E h => ?_) (fun cdv A outer s H vs Q E hr h => ?_)
  · obtain ⟨_, _, _, _, _, _, rfl, _⟩ := h
    rfl
  · obtain ⟨a, sz, g, wt, b, t, rfl, ⟨a', dx, e, ha⟩, ok, k⟩ := h
    cases e
    have := ok.g0
    have := ok.g1
    have := ok.w0
    have := ok.w1
    refine ⟨_, PSs.nox 
      (pss_one (ps_ret (pe_op op_sub (pe_op op_add (e_fld K (pv 0)) (pe_op op_mul (e_fld K (pv 0)) (pv 2))) (pe_op op_mul (e_fld K (pv 0)) (pe_op op_add (pv 1) pe_int))))), ?_⟩
    refine ⟨_, rfl, a, CF, dx, _, _, rfl, ha, L.cl, L.n1, firF_whole, _, rfl, a, CF, dx, _, _, rfl, ha, L.cl, L.n2, firF_growth, _, rfl, _, _, rfl, rfl, .inl ⟨by omega, by omega⟩, _, _, rfl, rfl, _, rfl, a, CF, dx, _, _, rfl, ha, L.cl, L.n3, firF_water, _, rfl, _, _, rfl, rfl, _, _, rfl, rfl, .inl ⟨by omega, by omega⟩, _, _, rfl, rfl, k⟩
abbrev s_put_out : Stmt := top 28
theorem sc_put_out : FnScope ["line", "fire", "course", "steady", "bucket", "tick", "first", "gain", "more"] ["line", "fire"] (defScope s_put_out) := ⟨rfl, rfl, rfl, by decide +kernel, rfl, by decide +kernel, by decide +kernel⟩

theorem ok_put {f : Addr} {fd : FuncData} (F : FnP K "put_out" "put_out" s_put_out f fd) (T : Tx mg) (L : LineT K mg C) (LF : FirT K CF) (mkC : C8.Mak P w K mg base 2 "Course" CC (spCouB K CC) []) (mEnds : C8.Met P w K mg base 1 CC "ends" (spCEnds CC) []) (mLeft : C8.Met P w K mg base 1 CF "left" (spLeft CF) []) (cSteady : C8.Cal P w K mg base 4 "steady_from" (spSteady K C) []) (pDur : PropC P w K mg base 1 C "durations" (spDur K C)) (pPace : PropC P w K mg base 3 C "pace" (spLPace K C)) : FnOk P w K mg base CX0 5 f fd ["line", "fire"] (spPut K C CF) := by
  refine F.ok sc_put_out (fun vs H Q E h => ?_) (fun cdv A outer s H vs Q E hr h => ?_)
  · obtain ⟨_, _, _, _, _, _, rfl, _⟩ := h
    rfl
  · obtain ⟨a, fi, ps, sz, g, wt, rfl, hL, hV, hF, ok, kF⟩ := h
    have kN : ∀ H', Same H H' → (∀ b, 1 ≤ leftB (dursOf ps) sz g wt b) → Q .non H' := fun H' s h => kF H' .non s (.inl ⟨rfl, h⟩)
    have kS : ∀ H' t b, Same H H' → OutAt (dursOf ps) sz g wt b → H' t = some (.tup [.int (b : Nat), .int (lastE (dursOf ps) b)]) → Q (.ref t) H' := fun H' t b s h1 h2 => kF H' (.ref t) s (.inr ⟨t, b, rfl, h1, h2⟩)
    obtain ⟨a', dx, p, xs, e, ha, hp, hd⟩ := id hL
    cases e
    obtain ⟨fi', fdx, e, hfi⟩ := id hF
    cases e
    have D := durB_of hV
    have ne := D.ne
    obtain ⟨⟨hN1, hN2⟩, hN3⟩ := stN_spec D
    refine ⟨_, PSs.nox 
      (pss_cons (ps_par (i := 2) (j := 3) (by rfl) sc_put_out.nd rfl rfl (by decide) rfl rfl (pa_cons (C8.pe_mk mkC hr (by decide) rfl (pa_cons (e_prop pDur L.cl hr (by decide) (pv 0)) pa_nil)) (pa_cons (C8.pe_c cSteady hr (by decide) rfl (pa_cons (pv 0) pa_nil)) pa_nil)) (by rfl))
      (pss_cons (ps_for PassesOwn.never rfl (pi_range1 rfl T.f_range (pa_cons (pe_op op_add (pv 3) pe_int) pa_nil)) (pg_name (i := 4) sc_put_out.nd rfl (Or.inl rfl)) 
        (pss_cons (ps_set (i := 5) sc_put_out.nd rfl (.inl rfl) (pe_ix (ixL K) (C8.pe_mt mEnds hr (by decide) (pv 2) (pa_cons (pv 4) pa_nil)) (pe_un un_neg pe_int) (fun _ _ => rfl)))
        (pss_one (ps_if (pt_cmpR op_le (C8.pe_mt mLeft hr (by decide) (pv 1) (pa_cons (pv 4) (pa_cons (pv 5) pa_nil))) pe_int (nomark _)) 
          (pss_one (ps_ret (pe_tup (pa_cons (pv 4) (pa_cons (pv 5) pa_nil))))) pss_nil))))
      (pss_cons (ps_set (i := 6) sc_put_out.nd rfl (.inl rfl) (pe_ix (ixL K) (C8.pe_mt mEnds hr (by decide) (pv 2) (pa_cons (pv 3) pa_nil)) (pe_un un_neg pe_int) (fun _ _ => rfl)))
      (pss_cons (ps_set (i := 7) sc_put_out.nd rfl (.inl rfl) (pe_op op_sub (e_fld K (pv 1)) (pe_op op_mul (e_fld K (pv 1)) (e_prop pPace L.cl hr (by decide) (pv 0)))))
      (pss_cons (ps_if (pt_cmpR op_le (pv 7) pe_int (nomark _)) 
        (pss_one (ps_ret pe_non)) pss_nil)
      (pss_cons (ps_set (i := 8) sc_put_out.nd rfl (.inl rfl) (pe_op op_fdivB (pe_op op_sub (pe_op op_add (C8.pe_mt mLeft hr (by decide) (pv 1) (pa_cons (pv 3) (pa_cons (pv 6) pa_nil))) (pv 7)) pe_int) (pv 7)))
      (pss_one (ps_ret (pe_tup (pa_cons (pe_op op_add (pv 3) (pv 8)) (pa_cons (pe_op op_add (pv 6) (pe_op op_mul (pv 8) (e_prop pPace L.cl hr (by decide) (pv 0)))) pa_nil))))))))))), ?_⟩
    refine ⟨_, rfl, a, dx, _, rfl, ha, a, ps, rfl, hL, hV, fun H1 q s1 hq => ?_⟩
    refine fun c cdx hx hdx hne => mk_cou (SqT.of' hq) D hx hdx hne fun H2 s2 hc => ⟨rfl, ?_⟩
    have s12 := s1.trans s2
    refine ⟨_, rfl, a, ps, rfl, hL.same s12, hV, fun H3 s3 => ?_⟩
    have s13 := s12.trans s3
    have hc3 := hc.same s3
    refine ⟨_, _, rfl, ?_⟩
    refine ⟨_, rfl, _, _, rfl, rfl, _, rfl, by omega, by omega, ?_⟩
    refine for_it (walk_range0 (n := ((stN (dursOf ps) : Int) + 1).toNat)) (fun i σ H' => ∃ v4 v5, σ = [some (.ref a), some (.ref fi), some (.ref c), some (.int (stN (dursOf ps) : Nat)), v4, v5, none, none, none] ∧ Same H3 H' ∧ ∀ j, j < i → 1 ≤ leftB (dursOf ps) sz g wt j) ⟨none, none, rfl, Same.refl _, fun j hj => absurd hj (by omega)⟩ (fun _ _ _ _ _ => trivial) ?_ ?_
    · rintro i x σ H' H4 hi ⟨v4, v5, rfl, s4, hj⟩ ⟨rfl, rfl⟩
      obtain ⟨_, cdx', e, ee, hca, hrr⟩ := id (hc3.same s4)
      cases ee
      have s14 := s13.trans s4
      refine ⟨_, rfl, c, cdx', _, rfl, hca, noEnds, _, rfl, c, _, dursOf ps, rfl, hc3.same s4, D, by omega, fun H5 r s5 hr5 => ?_⟩
      refine ⟨_, rfl, r, _, _, _, rfl, rfl, SqL.of hr5, row_last ne _, ?_⟩
      rw [show ((i : Nat) : Int).toNat = i by omega]
      have s15 := s14.trans s5
      refine ⟨_, rfl, fi, fdx, _, rfl, s15 _ _ hfi, firF_left, _, rfl, _, rfl, fi, sz, g, wt, _, _, rfl, hF.same s15, ok, ?_⟩
      refine ⟨_, _, rfl, rfl, _, rfl, iteD (fun h0 => ?_) (fun h0 => ?_)⟩
      · refine ⟨_, rfl, _, rfl, (by show 2 ≤ sizeLine; decide), fun t ht => ?_⟩
        exact kS _ t i (s15.trans (same_new ht)) ⟨h0, hj⟩ upd_same
      · refine ⟨_, _, rfl, s4.trans s5, fun j hji => ?_⟩
        rcases Nat.lt_or_ge j i with z | z
        · exact hj j z
        · have : j = i := by omega
          subst this
          unfold leftB
          omega
    · rintro σ H' ⟨v4, v5, rfl, s4, hj⟩
      have hall : ∀ j, j ≤ stN (dursOf ps) → 1 ≤ leftB (dursOf ps) sz g wt j := fun j hjn => hj j (by omega)
      obtain ⟨_, cdx', e, ee, hca, hrr⟩ := id (hc3.same s4)
      cases ee
      have s14 := s13.trans s4
      refine ⟨_, rfl, c, cdx', _, rfl, hca, noEnds, _, rfl, c, _, dursOf ps, rfl, hc3.same s4, D, by omega, fun H5 r s5 hr5 => ?_⟩
      refine ⟨_, rfl, r, _, _, _, rfl, rfl, SqL.of hr5, row_last ne _, ?_⟩
      have s15 := s14.trans s5
      rw [show ((stN (dursOf ps) : Nat) : Int).toNat = stN (dursOf ps) by omega]
      have g0 := ok.g0
      have g1 := ok.g1
      refine ⟨_, rfl, fi, CF, fdx, _, _, rfl, s15 _ _ hfi, LF.cl, LF.n3, firF_water, _, rfl, fi, CF, fdx, _, _, rfl, s15 _ _ hfi, LF.cl, LF.n2, firF_growth, _, rfl, a, dx, _, rfl, s15 _ _ ha, a, ps, rfl, hL.same s15, hV, fun H6 s6 => ?_⟩
      have s16 := s15.trans s6
      refine ⟨_, _, rfl, rfl, .inl ⟨by omega, by omega⟩, _, _, rfl, rfl, ?_⟩
      refine ⟨_, rfl, _, _, rfl, rfl, _, rfl, iteD (fun h0 => ?_) (fun h0 => ?_)⟩
      · exact kN H6 s16 fun b => never_far D hall h0 b
      · obtain ⟨m, hm, ho⟩ := out_far D hall (by omega)
        have w0 := ok.w0
        have w1 := ok.w1
        have hgp : 0 ≤ g * paceL (dursOf ps) := Int.mul_nonneg g0 D.pace_nn
        refine ⟨_, rfl, fi, fdx, _, rfl, s16 _ _ hfi, firF_left, _, rfl, _, rfl, fi, sz, g, wt, _, _, rfl, hF.same s16, ok, ?_⟩
        refine ⟨_, rfl, _, _, rfl, rfl, _, _, rfl, rfl, _, rfl, _, _, rfl, rfl, ⟨by omega, by omega⟩, ?_⟩
        have hm' : (leftF sz g wt (stN (dursOf ps) : Nat) (lastE (dursOf ps) (stN (dursOf ps))) + (wt - g * paceL (dursOf ps)) - 1) / (wt - g * paceL (dursOf ps)) = (m : Int) := hm
        dsimp only
        rw [hm']
        have pp := D.pace_pos
        have pl := D.pace_le
        refine ⟨_, rfl, _, rfl, _, _, rfl, rfl, _, rfl, _, rfl, _, rfl, a, dx, _, rfl, s16 _ _ ha, a, ps, rfl, hL.same s16, hV, fun H7 s7 => ?_⟩
        refine ⟨_, _, rfl, rfl, .inr ⟨by omega, by omega⟩, _, _, rfl, rfl, (by show 2 ≤ sizeLine; decide), fun t ht => ?_⟩
        refine kS _ t (stN (dursOf ps) + m) ((s16.trans s7).trans (same_new ht)) ho ?_
        rw [upd_same, lastE_far D]
        rfl
abbrev s_largest_fire : Stmt := top 29
theorem sc_largest_fire : FnScope ["line", "growth", "water", "tick", "fire", "last", "best", "course", "bucket"] ["line", "growth", "water", "tick"] (defScope s_largest_fire) := ⟨rfl, rfl, rfl, by decide +kernel, rfl, by decide +kernel, by decide +kernel⟩

theorem ok_large {f : Addr} {fd : FuncData} (F : FnP K "largest_fire" "largest_fire" s_largest_fire f fd) (T : Tx mg) (L : LineT K mg C) (LF : FirT K CF) (mkF : MakK P w K mg base 1 "Fire" CF 1 ["growth", "water"] (spFireB CF)) (mkC : C8.Mak P w K mg base 2 "Course" CC (spCouB K CC) []) (mEnds : C8.Met P w K mg base 1 CC "ends" (spCEnds CC) []) (mLeft : C8.Met P w K mg base 1 CF "left" (spLeft CF) []) (cSteady : C8.Cal P w K mg base 4 "steady_from" (spSteady K C) []) (cBy : C8.Cal P w K mg base 4 "buckets_by" (spBy K C) []) (pDur : PropC P w K mg base 1 C "durations" (spDur K C)) : FnOk P w K mg base CX0 5 f fd ["line", "growth", "water", "tick"] (spLarge K C) := by
  refine F.ok sc_largest_fire (fun vs H Q E h => ?_) (fun cdv A outer s H vs Q E hr h => ?_)
  · obtain ⟨_, _, _, _, _, rfl, _⟩ := h
    rfl
  · obtain ⟨a, ps, g, wt, t, rfl, hL, hV, ok, t0, t1, k⟩ := h
    obtain ⟨a', dx, p, xs, e, ha, hp, hd⟩ := id hL
    cases e
    have D := durB_of hV
    have ne := D.ne
    obtain ⟨⟨hN1, hN2⟩, hN3⟩ := stN_spec D
    refine ⟨_, PSs.nox 
      (pss_cons (ps_set (i := 4) sc_largest_fire.nd rfl (.inl rfl) (e_makeK mkF hr (by decide) rfl (pa_cons pe_int pa_nil) (pk_cons (pv 1) (pk_cons (pv 2) pk_nil))))
      (pss_cons (ps_par (i := 5) (j := 6) (by rfl) sc_largest_fire.nd rfl rfl (by decide) rfl rfl (pa_cons (pe_op op_sub (C8.pe_c cBy hr (by decide) rfl (pa_cons (pv 0) (pa_cons (pv 3) pa_nil))) pe_int) (pa_cons pe_int pa_nil)) (by rfl))
      (pss_cons (ps_set (i := 7) sc_largest_fire.nd rfl (.inl rfl) (C8.pe_mk mkC hr (by decide) rfl (pa_cons (e_prop pDur L.cl hr (by decide) (pv 0)) pa_nil)))
      (pss_cons (ps_for PassesOwn.never rfl (iL K (pe_lst (pa_starRg rfl (prg_1 (by rfl) T.f_range (pe_op op_add (pe_callB (call_min2 rfl) (by rfl) T.f_min (by decide +kernel) (pa_cons (C8.pe_c cSteady hr (by decide) rfl (pa_cons (pv 0) pa_nil)) (pa_cons (pv 5) pa_nil))) pe_int)) (pa_cons (pv 5) pa_nil)))) (pg_name (i := 8) sc_largest_fire.nd rfl (Or.inl rfl)) 
        (pss_one (ps_if (pt_cmpR op_ge (pv 8) pe_int (nomark _)) 
          (pss_one (ps_set (i := 6) sc_largest_fire.nd rfl (.inl rfl) (pe_callB (call_max2 rfl) (by rfl) T.f_max (by decide +kernel) (pa_cons (pv 6) (pa_cons (pe_op op_sub pe_int (C8.pe_mt mLeft hr (by decide) (pv 4) (pa_cons (pv 8) (pa_cons (pe_ix (ixL K) (C8.pe_mt mEnds hr (by decide) (pv 7) (pa_cons (pv 8) pa_nil)) (pe_un un_neg pe_int) (fun _ _ => rfl)) pa_nil)))) pa_nil))))) pss_nil)))
      (pss_one (ps_ret (pv 6))))))), ?_⟩
    refine ⟨_, rfl, _, rfl, rfl, rfl, fun fi fdx hx hdx hne => mk_fire hx hdx hne ok fun H1 s1 hF => ⟨rfl, ?_⟩⟩
    refine ⟨_, rfl, _, rfl, a, ps, t, rfl, hL.same s1, hV, t0, t1, fun H2 n hn s2 => ?_⟩
    have s12 := s1.trans s2
    refine ⟨_, _, rfl, rfl, _, _, rfl, ?_⟩
    refine ⟨_, rfl, a, dx, _, rfl, s12 _ _ ha, a, ps, rfl, hL.same s12, hV, fun H3 q s3 hq => ?_⟩
    have s13 := s12.trans s3
    refine fun c cdx hx hdx hne => mk_cou (SqT.of' hq) D hx hdx hne fun H4 s4 hc => ⟨rfl, ?_⟩
    have s14 := s13.trans s4
    refine ⟨_, rfl, a, ps, rfl, hL.same s14, hV, fun H5 s5 => ?_⟩
    have s15 := s14.trans s5
    generalize hM : (if (n : Int) - 1 < ((stN (dursOf ps) : Nat) : Int) then (n : Int) - 1 else ((stN (dursOf ps) : Nat) : Int)) + 1 = M
    have hM0 : 0 ≤ M ∧ M ≤ n ∧ M ≤ stN (dursOf ps) + 1 := by rw [← hM]; split <;> omega
    have hM1 : ∀ b : Nat, b < n → b ≤ stN (dursOf ps) → (b : Int) < M := fun b h1 h2 => by rw [← hM]; split <;> omega
    have hM2 : (if (n : Int) - 1 < ((stN (dursOf ps) : Nat) : Int) then (n : Int) - 1 else ((stN (dursOf ps) : Nat) : Int)) = M - 1 := by omega
    refine ⟨_, rfl, _, _, rfl, M - 1, 1, congrArg V.int hM2, rfl, M, congrArg V.int (show M - 1 + 1 = M by omega), ?_⟩
    refine ⟨⟨by omega, by omega, by omega, by omega, by omega⟩, _, rfl, ?_, fun l hl => ?_⟩
    · rw [List.length_append, rgV_length]
      exact Nat.le_of_lt (szl2 (by show _ + 1 ≤ _; omega))
    have hx1 : ∀ (i : Nat) (x : V), (rgV 0 M ++ [V.int ((n : Int) - 1)])[i]? = some x → ∃ z : Int, x = .int z ∧ z < n := by
      intro i x hx
      rcases Nat.lt_or_ge i (rgV 0 M).length with hi | hi
      · rw [List.getElem?_append_left hi] at hx
        unfold rgV at hx
        rw [List.getElem?_map] at hx
        rw [rgV_length] at hi
        rw [List.getElem?_range hi] at hx
        cases hx
        exact ⟨_, rfl, by omega⟩
      · rw [List.getElem?_append_right hi] at hx
        cases e : i - (rgV 0 M).length with
        | zero => rw [e] at hx; cases hx; exact ⟨_, rfl, by omega⟩
        | succ j => rw [e] at hx; simp at hx
    have hx2 : ∀ b : Nat, b < n → b ≤ stN (dursOf ps) → (rgV 0 M ++ [V.int ((n : Int) - 1)])[b]? = some (.int b) := fun b h1 h2 => by
      have := hM1 b h1 h2
      rw [List.getElem?_append_left (by rw [rgV_length]; omega)]
      unfold rgV
      rw [List.getElem?_map, List.getElem?_range (by omega)]
      show some (V.int (0 + (b : Int))) = _
      rw [Int.zero_add]
    have hx3 : ∀ b : Nat, b + 1 = n → (rgV 0 M ++ [V.int ((n : Int) - 1)])[(rgV 0 M).length]? = some (.int b) := fun b h1 => by
      rw [List.getElem?_append_right (Nat.le_refl _), Nat.sub_self]
      show some (V.int ((n : Int) - 1)) = _
      rw [show (n : Int) - 1 = b by omega]
    have hlen : (rgV 0 M ++ [V.int ((n : Int) - 1)]).length = (rgV 0 M).length + 1 := by rw [List.length_append]; rfl
    have hMl : (rgV 0 M).length = M.toNat := by rw [rgV_length]; omega
    generalize rgV 0 M ++ [V.int ((n : Int) - 1)] = us at *
    generalize (rgV 0 M).length = ml at *
    have s6 : Same H5 (upd H5 l (.lst us)) := same_new hl
    have h6 : upd H5 l (.lst us) l = some (.lst us) := upd_same
    generalize upd H5 l (.lst us) = H6 at *
    have s16 := s15.trans s6
    have hc6 : IsCou CC H6 (.ref c) (dursOf ps) := (hc.same s5).same s6
    have hF6 : IsFire CF H6 (.ref fi) 1 g wt := hF.same ((s2.trans s3).trans ((s4.trans s5).trans s6))
    refine ⟨l, rfl, ⟨_, SqL.of h6⟩, for_it (walk_list (K := K) (a := l) (xs := us)) (fun i σ H' => ∃ (v : Int) (v8 : Option V), σ = [some (.ref a), some (.int g), some (.int wt), some (.int t), some (.ref fi), some (.int ((n : Int) - 1)), some (.int v), some (.ref c), v8] ∧ Same H6 H' ∧ 0 ≤ v ∧
      (v = 0 ∨ ∃ b, b < n ∧ v = wt * ((b : Int) + 1) - g * lastE (dursOf ps) b) ∧ ∀ (j b : Nat), j < i → us[j]? = some (.int b) → wt * ((b : Int) + 1) - g * lastE (dursOf ps) b ≤ v) ⟨0, none, rfl, Same.refl _, Int.le_refl _, .inl rfl, fun j b hj => absurd hj (by omega)⟩ ?_ ?_ ?_⟩
    · rintro i σ H' _ ⟨_, _, _, s7, _⟩
      exact SqL.of (s7 _ _ h6)
    · rintro i x σ H' H7 hi ⟨v, v8, rfl, s7, hv0, hv1, hv2⟩ ⟨rfl, hx⟩
      obtain ⟨z, rfl, hz⟩ := hx1 i x hx
      refine ⟨_, rfl, _, _, rfl, rfl, _, rfl, iteD (fun h0 => ?_) (fun h0 => ?_)⟩
      · obtain ⟨fi', fdx', e, hfi⟩ := id (hF6.same s7)
        cases e
        obtain ⟨c', cdx', e, e', hca, hrr⟩ := id (hc6.same s7)
        cases e'
        obtain ⟨b, rfl⟩ : ∃ b : Nat, z = b := ⟨z.toNat, by omega⟩
        refine ⟨_, rfl, _, rfl, fi, fdx', _, rfl, hfi, firF_left, _, rfl, _, rfl, c, cdx', _, rfl, hca, noEnds, _, rfl, c, _, dursOf ps, rfl, hc6.same s7, D, by omega, fun H8 r s8 hr8 => ?_⟩
        refine ⟨_, rfl, r, _, _, _, rfl, rfl, SqL.of hr8, row_last ne _, fi, 1, g, wt, _, _, rfl, (hF6.same s7).same s8, ok, _, _, rfl, rfl, _, _, rfl, ?_⟩
        rw [show ((b : Nat) : Int).toNat = b by omega]
        have eG : 1 - leftF 1 g wt b (lastE (dursOf ps) b) = wt * ((b : Int) + 1) - g * lastE (dursOf ps) b := by unfold leftF; omega
        rw [eG]
        refine ⟨_, _, rfl, s7.trans s8, ?_, ?_, fun j c' hj hjc => ?_⟩
        · split <;> omega
        · split
          · exact .inr ⟨b, by omega, rfl⟩
          · exact hv1
        · rcases Nat.lt_or_ge j i with hji | hji
          · have := hv2 j c' hji hjc
            split <;> omega
          · have : j = i := by omega
            subst this
            rw [hx] at hjc
            have e1 : (b : Int) = c' := V.int.inj (Option.some.inj hjc)
            have e2 : b = c' := by omega
            subst e2
            split <;> omega
      · refine ⟨_, _, rfl, s7, hv0, hv1, fun j c' hj hjc => ?_⟩
        rcases Nat.lt_or_ge j i with hji | hji
        · exact hv2 j c' hji hjc
        · have : j = i := by omega
          subst this
          rw [hx] at hjc
          have e1 : z = c' := V.int.inj (Option.some.inj hjc)
          omega
    · rintro σ H' ⟨v, v8, rfl, s7, hv0, hv1, hv2⟩
      refine ⟨_, rfl, k H' n v (s16.trans s7) hn (best_of D hv0 (fun b h1 h2 => hv2 b b ?_ (hx2 b h1 h2)) (fun b h1 => hv2 ml b (by omega) (hx3 b h1)) hv1)⟩
      have := hM1 b h1 h2
      omega
end
end Bk
/-! ### law 33 -/
namespace Bk
open PySem PySem.Spec PyProof.Rows L2
def spIsOut (K : PySem.W.Frag) (C : Addr) : Sp := fun vs H Q _ => ∃ (a : Addr) (ps : List Person) (nm : Str) (s g w : Int), vs = [.ref a, .str nm, .int s, .int g, .int w] ∧ IsLine K C H (.ref a) ps ∧ Valid ps ∧ (namesOf ps)[ps.length - 1]? = some nm ∧ FireOk s g w ∧ paceL (dursOf ps) ≤ 18 ∧ ∀ H', Same H H' → Q (.bl true) H'
/-- what the greatest fires say of the first bucket with which one is out -/
theorem out_best {ds : List Int} (D : DurB ds) {s g w : Int} {b n : Nat} {m : Int} (ho : OutAt ds s g w b) (hn : ByN ds (lastE ds b) n) (hb : Best ds g w n m) : s ≤ m := by
  have h1 := hb.ge b ((hn b).mp (Int.le_refl _))
  have h2 := ho.out
  unfold leftB leftF at h2
  omega
theorem out_best' {ds : List Int} (D : DurB ds) {s g w : Int} {b n : Nat} {m : Int} (hs : 1 ≤ s) (ho : OutAt ds s g w b) (hn : ByN ds (lastE ds b - 1) n) (hb : Best ds g w n m) : m < s := by
  rcases hb.at_ with e | ⟨j, hj, e⟩
  · omega
  · have h0 := (hn j).mpr hj
    have hjb : j < b := by
      rcases Nat.lt_or_ge j b with z | z
      · exact z
      · have := lastE_le D z
        omega
    have h1 := ho.fst j hjb
    unfold leftB leftF at h1
    omega
theorem cameT_last {ps : List Person} (hV : Valid ps) (b : Nat) : cameT (dursOf ps) b (ps.length - 1) = lastE (dursOf ps) b := by
  have := hV.lo
  unfold cameT lastE
  rw [if_neg (by omega), dursOf_len]
section
variable {P : Program} {w : World} {K : PySem.W.Frag} {mg : Str → Option Value} {base : Heap} {C CC CF : Addr}
abbrev s__law_is_out : Stmt := top 44
theorem sc__law_is_out : FnScope ["_law_line_here", "_law_name", "_law_size", "_law_grow", "_law_wet", "_law_fire", "_law_found", "_law_bucket", "_law_tick"] ["_law_line_here", "_law_name", "_law_size", "_law_grow", "_law_wet"] (defScope s__law_is_out) := ⟨rfl, rfl, rfl, by decide +kernel, rfl, by decide +kernel, by decide +kernel⟩

theorem ok_isOut {f : Addr} {fd : FuncData} (F : FnP K "_law_is_out" "_law_is_out" s__law_is_out f fd) (T : Tx mg) (L : LineT K mg C) (mkF : MakK P w K mg base 1 "Fire" CF 1 ["growth", "water"] (spFireB CF)) (mLeft : C8.Met P w K mg base 1 CF "left" (spLeft CF) []) (cPut : C8.Cal P w K mg base 5 "put_out" (spPut K C CF) []) (cLarge : C8.Cal P w K mg base 5 "largest_fire" (spLarge K C) []) (callLine : CallC P w K mg base 5 C (spCallL K C)) : FnOk P w K mg base CX0 6 f fd ["_law_line_here", "_law_name", "_law_size", "_law_grow", "_law_wet"] (spIsOut K C) := by
  refine F.ok sc__law_is_out (fun vs H Q E h => ?_) (fun cdv A outer s H vs Q E hr h => ?_)
  · obtain ⟨_, _, _, _, _, _, rfl, _⟩ := h
    rfl
  · obtain ⟨a, ps, nm, sz, g, wt, rfl, hL, hV, hnm, ok, pl, k⟩ := h
    obtain ⟨a', dx, p, xs, e, ha, hp, hd⟩ := id hL
    cases e
    have D := durB_of hV
    refine ⟨_, PSs.nox 
      (pss_cons (ps_set (i := 5) sc__law_is_out.nd rfl (.inl rfl) (e_makeK mkF hr (by decide) rfl (pa_cons (pv 2) pa_nil) (pk_cons (pv 3) (pk_cons (pv 4) pk_nil))))
      (pss_cons (ps_set (i := 6) sc__law_is_out.nd rfl (.inl rfl) (C8.pe_c cPut hr (by decide) rfl (pa_cons (pv 0) (pa_cons (pv 5) pa_nil))))
      (pss_cons (ps_if (pt_cmpR op_isN (pv 6) pe_non (nomark _)) 
        (pss_one (ps_ret pe_bl)) pss_nil)
      (pss_cons (ps_asg (pv 6) (g_tup K 2 rfl (pgs_cons (pg_name (i := 7) sc__law_is_out.nd rfl (Or.inl rfl)) (pgs_cons (pg_name (i := 8) sc__law_is_out.nd rfl (Or.inl rfl)) pgs_nil))))
      (pss_cons (ps_if (PW.pt (pw_or (pt_cmpR op_ne (e_callO callLine hr (by decide) (pv 0) (pa_cons (pv 7) (pa_cons (pv 1) pa_nil))) (pv 8) (nomark _)) (pw_or1 (pt_cmpR op_gt (C8.pe_mt mLeft hr (by decide) (pv 5) (pa_cons (pv 7) (pa_cons (pv 8) pa_nil))) pe_int (nomark _))))) 
        (pss_one (ps_ret pe_bl)) pss_nil)
      (pss_cons (ps_if (PW.pt (pw_and (pt_cmpR op_gt (pv 7) pe_int (nomark _)) (pw_and1 (pt_cmpR op_le (C8.pe_mt mLeft hr (by decide) (pv 5) (pa_cons (pe_op op_sub (pv 7) pe_int) (pa_cons (e_callO callLine hr (by decide) (pv 0) (pa_cons (pe_op op_sub (pv 7) pe_int) (pa_cons (pv 1) pa_nil))) pa_nil))) pe_int (nomark _))))) 
        (pss_one (ps_ret pe_bl)) pss_nil)
      (pss_one (ps_ret (pe_chain op_ge op_gt (C8.pe_c cLarge hr (by decide) rfl (pa_cons (pv 0) (pa_cons (pv 3) (pa_cons (pv 4) (pa_cons (pv 8) pa_nil))))) (pv 2) (C8.pe_c cLarge hr (by decide) rfl (pa_cons (pv 0) (pa_cons (pv 3) (pa_cons (pv 4) (pa_cons (pe_op op_sub (pv 8) pe_int) pa_nil)))))))))))))), ?_⟩
    refine ⟨_, rfl, _, rfl, _, rfl, rfl, rfl, fun fi fdx hx hdx hne => mk_fire hx hdx hne ok fun H1 s1 hF => ⟨rfl, ?_⟩⟩
    refine ⟨_, rfl, _, rfl, a, fi, ps, sz, g, wt, rfl, hL.same s1, hV, hF, ok, fun H2 v s2 hv => ?_⟩
    rcases hv with ⟨rfl, _⟩ | ⟨t, b, rfl, ho, ht⟩
    · refine ⟨_, rfl, rfl, _, rfl, iteT ?_⟩
      exact k _ (s1.trans s2)
    · refine ⟨_, rfl, rfl, _, rfl, iteF ?_⟩
      have s12 := s1.trans s2
      have b1 := ho.le D ok.s0 ok.g0
      have b2 := lastE_top D b
      have b3 := lastE_ge D b
      have s1' := ok.s1
      have g1' := ok.g1
      have g0' := ok.g0
      have pp := D.pace_pos
      have b4 : (b : Int) * paceL (dursOf ps) ≤ (b : Int) * 18 := Int.mul_le_mul_of_nonneg_left pl (by omega)
      refine ⟨_, rfl, t, _, rfl, SqT.of' ht, rfl, _, _, rfl, _, _, rfl, rfl, ?_⟩
      have b5 : g * 11000 ≤ 1000000 * 11000 := Int.mul_le_mul_of_nonneg_right g1' (by decide)
      have hF2 := hF.same s2
      refine ⟨_, rfl, a, rfl, _, rfl, _, rfl, ⟨dx, _, s12 _ _ ha⟩, a, ps, nm, ps.length - 1, _, rfl, hL.same s12, hV, hnm, by omega, by omega, fun H3 s3 => ?_⟩
      have s13 := s12.trans s3
      have hF3 := hF2.same s3
      obtain ⟨fi', fdx', e, hfi3⟩ := id hF3
      cases e
      refine ⟨_, rfl, rfl, _, rfl, ?_⟩
      rw [show ((b : Nat) : Int).toNat = b by omega, cameT_last hV]
      refine iteN (fun h0 => absurd rfl h0) (fun _ => ?_)
      refine ⟨_, rfl, fi, fdx', _, rfl, hfi3, firF_left, _, rfl, _, rfl, fi, sz, g, wt, _, _, rfl, hF3, ok, _, _, rfl, rfl, _, rfl, iteD (fun h0 => ?_) (fun _ => ?_)⟩
      · have := ho.out
        unfold leftB at this
        omega
      -- the bucket before
      have fin : ∀ H4, Same H3 H4 → tRet (tChain (rI0 fun i j => V.bl (decide (j ≤ i))) (rI0 fun i j => V.bl (decide (j < i))) (tCall (spLarge K C) [] C8.E0 (tCons (tVar 0) (tCons (tVar 3) (tCons (tVar 4) (tCons (tVar 8) tNil))))) (tVar 2) (tCall (spLarge K C) [] C8.E0 (tCons (tVar 0) (tCons (tVar 3) (tCons (tVar 4) (tCons (tOp (rI0 fun i j => V.int (i - j)) (tVar 8) (tC (V.int 1))) tNil))))))
          { nx := fun x H' => Q V.non H', rt := Q } [some (.ref a), some (.str nm), some (.int sz), some (.int g), some (.int wt), some (.ref fi), some (.ref t), some (.int (b : Nat)), some (.int (lastE (dursOf ps) b))] H4 := by
        intro H4 s4
        have ok1 : FireOk 1 g wt := ⟨by decide, by decide, ok.g0, ok.g1, ok.w0, ok.w1⟩
        have s14 := s13.trans s4
        refine ⟨_, rfl, _, rfl, _, rfl, _, rfl, a, ps, g, wt, _, rfl, hL.same s14, hV, ok1, by omega, by omega, fun H5 n m s5 hn hb => ?_⟩
        have c1 := out_best D ho hn hb
        refine ⟨_, rfl, _, _, rfl, rfl, _, rfl, ?_⟩
        rw [decide_eq_true c1]
        refine iteT ?_
        have s15 := s14.trans s5
        refine ⟨_, rfl, _, rfl, _, rfl, _, rfl, _, _, rfl, rfl, a, ps, g, wt, _, rfl, hL.same s15, hV, ok1, by omega, by omega, fun H6 n' m' s6 hn' hb' => ?_⟩
        have c2 := out_best' D ok.s0 ho hn' hb'
        refine ⟨_, _, rfl, rfl, ?_⟩
        show Q (.bl (decide (m' < sz))) H6
        rw [decide_eq_true c2]
        exact k _ (s15.trans s6)
      refine ⟨_, rfl, _, _, rfl, rfl, _, rfl, iteD (fun h0 => ?_) (fun _ => ?_)⟩
      · refine ⟨_, rfl, fi, fdx', _, rfl, hfi3, firF_left, _, rfl, _, _, rfl, rfl, _, rfl, a, rfl, _, rfl, _, _, rfl, rfl, _, rfl, ⟨dx, _, s13 _ _ ha⟩, a, ps, nm, ps.length - 1, _, rfl, hL.same s13, hV, hnm, by omega, by omega, fun H4 s4 => ?_⟩
        rw [show (((b : Nat) : Int) - 1).toNat = b - 1 by omega, cameT_last hV]
        refine ⟨fi, sz, g, wt, _, _, rfl, hF3.same s4, ok, _, _, rfl, rfl, _, rfl, iteD (fun h1 => ?_) (fun _ => fin H4 s4)⟩
        have := ho.fst (b - 1) (by omega)
        unfold leftB at this
        rw [show ((b - 1 : Nat) : Int) = (b : Int) - 1 by omega] at this
        omega
      · exact fin H3 (Same.refl _)
end
end Bk
namespace Bk
open PySem PySem.Spec PyProof.Rows L2
def spBelow : Sp := fun vs H Q _ => ∃ (d : Addr) (l : List Int) (n : Int), vs = [.ref d, .int n] ∧ H d = some (.lst (ivs l)) ∧ Src l ∧ 1 ≤ n ∧ n ≤ 1000000000000000000 ∧
  ∀ r l', 0 ≤ r → r < n → Src l' → l'.length ≤ l.length → Q (.int r) (upd H d (.lst (ivs l')))
section
variable {P : Program} {w : World} {K : PySem.W.Frag} {mg : Str → Option Value} {base : Heap}
abbrev s__law_below : Stmt := top 37
theorem sc__law_below : FnScope ["_law_d", "_law_limit", "_law_result"] ["_law_d", "_law_limit"] (defScope s__law_below) := ⟨rfl, rfl, rfl, by decide +kernel, rfl, by decide +kernel, by decide +kernel⟩

theorem ok_below {f : Addr} {fd : FuncData} (F : FnP K "_law_below" "_law_below" s__law_below f fd) (T : Tx mg) : FnOk P w K mg base CX0 1 f fd ["_law_d", "_law_limit"] spBelow := by
  refine F.ok sc__law_below (fun vs H Q E h => ?_) (fun cdv A outer s H vs Q E hr h => ?_)
  · obtain ⟨d, l, n, rfl, _⟩ := h
    rfl
  · obtain ⟨d, l, n, rfl, hd, ⟨a, b, r, rfl, ha, hb, hrr⟩, hn, hn2, k⟩ := h
    refine ⟨_, PSs.nox 
      (Evl.pss_cut (ps_if (PW.pt (pw_and (pt_cmpR op_eq (pe_ix (ixL K) (pv 0) pe_int (fun _ _ => rfl)) pe_int (nomark _)) (pw_and1 (pt_cmpR op_gt (pe_callB (c_len K) (by rfl) T.f_len PySem.boot_len (pa_cons (pv 0) pa_nil)) pe_int (nomark _))))) 
        (pss_one (ps_asg (e_bm K PySem.F.plainAttrs_list PySem.F.slot_list_pop PySem.F.type_list_pop mt_popAt (pv 0) (pa_cons pe_int pa_nil)) (pg_sub (pv 0) pe_int set_list))) pss_nil)
      (pss_cons (ps_if (pt_cmpR op_gt (pe_ix (ixL K) (pv 0) pe_int (fun _ _ => rfl)) pe_int (nomark _)) 
        (pss_cons (ps_set (i := 2) sc__law_below.nd rfl (.inl rfl) (pe_op op_mod (pe_ix (ixL K) (pv 0) pe_int (fun _ _ => rfl)) (pv 1)))
        (pss_cons (ps_asg (pe_op op_fdivB (pe_ix (ixL K) (pv 0) pe_int (fun _ _ => rfl)) (pv 1)) (pg_sub (pv 0) pe_int set_list))
        (pss_one (ps_ret (pv 2))))) pss_nil)
      (pss_cons (ps_asg (pe_op op_mod (pe_op op_add (pe_op op_mul (pe_ix (ixL K) (pv 0) pe_int (fun _ _ => rfl)) pe_int) pe_int) pe_int) (pg_sub (pv 0) pe_int set_list))
      (pss_one (ps_ret (pe_op op_mod (pe_op op_fdivB (pe_ix (ixL K) (pv 0) pe_int (fun _ _ => rfl)) pe_int) (pv 1))))))), ?_⟩
    refine ⟨fun σ' H' => ∃ b' r', σ' = [some (.ref d), some (.int n), none] ∧ H' = upd H d (.lst (ivs (a :: b' :: r'))) ∧ 0 ≤ b' ∧ (∀ x ∈ r', (0 : Int) ≤ x) ∧ r'.length ≤ r.length, ?_, ?_⟩
    · have same : H = upd H d (.lst (ivs (a :: b :: r))) := by
        funext x
        by_cases e : x = d
        · rw [e, upd_same, hd]
        · rw [upd_ne e]
      refine ⟨_, rfl, d, _, 1, _, rfl, rfl, SqL.of hd, at_1, rfl, _, rfl, ?_⟩
      refine iteD (fun h0 => ?_) (fun h0 => ?_)
      · refine ⟨_, rfl, d, _, rfl, .inl (SqL.of hd), _, _, rfl, rfl, _, rfl, ?_⟩
        refine iteD (fun h1 => ?_) (fun h1 => ?_)
        · cases r with
          | nil => exact absurd h1 (by simp [ivs])
          | cons c r =>
            refine ⟨_, rfl, .inl ⟨rfl, _, SqL.of hd⟩, d, _, _, 2, _, rfl, rfl, hd, by decide, by decide, sq_2, rfl, ?_⟩
            refine ⟨_, rfl, d, _, 1, 1, rfl, rfl, upd_same, ix_1, ?_⟩
            rw [upd_upd]
            exact ⟨c, r, rfl, rfl, hrr c (by simp), fun x hx => hrr x (by simp [hx]), by simp⟩
        · exact ⟨b, r, rfl, same, hb, hrr, Nat.le_refl _⟩
      · exact ⟨b, r, rfl, same, hb, hrr, Nat.le_refl _⟩
    · rintro σ' H' ⟨b', r', rfl, rfl, hb', hr', hl'⟩
      have hd' : upd H d (.lst (ivs (a :: b' :: r'))) d = some (.lst (ivs (a :: b' :: r'))) := upd_same
      refine ⟨_, rfl, d, _, 1, _, rfl, rfl, SqL.of hd', at_1, _, _, rfl, rfl, _, rfl, ?_⟩
      refine iteD (fun h0 => ?_) (fun h0 => ?_)
      · refine ⟨_, rfl, d, _, 1, _, rfl, rfl, SqL.of hd', at_1, _, rfl, _, _, rfl, rfl, (by show (0 : Int) < n; omega), ?_⟩
        refine ⟨_, rfl, d, _, 1, _, rfl, rfl, SqL.of hd', at_1, _, rfl, _, _, rfl, rfl, ⟨by omega, by omega⟩, ?_⟩
        refine ⟨_, rfl, d, _, 1, 1, rfl, rfl, hd', ix_1, _, rfl, ?_⟩
        rw [upd_upd]
        exact k (b' % n) (a :: (b' / n) :: r') (Int.emod_nonneg _ (by omega)) (Int.emod_lt_of_pos _ (by omega)) ⟨a, _, r', rfl, ha, Int.ediv_nonneg hb' (by omega), hr'⟩ (by simp [hl'])
      · refine ⟨_, rfl, d, _, 0, _, rfl, rfl, SqL.of hd', at_0, _, _, rfl, rfl, .inr ⟨by decide, by decide⟩, _, _, rfl, rfl, _, _, rfl, rfl, (by show (0 : Int) < 2147483647; decide), ?_⟩
        refine ⟨_, rfl, d, _, 0, 0, rfl, rfl, hd', ix_0, ?_⟩
        refine ⟨_, rfl, d, _, 0, _, rfl, rfl, SqL.of upd_same, at_0, _, _, rfl, rfl, ⟨by decide, by decide⟩, _, rfl, _, _, rfl, rfl, (by show (0 : Int) < n; omega), ?_⟩
        rw [upd_upd]
        exact k _ (((a * 48271 + 11) % 2147483647) :: b' :: r') (Int.emod_nonneg _ (by omega)) (Int.emod_lt_of_pos _ (by omega)) ⟨_, b', r', rfl, Int.emod_nonneg _ (by decide), hb', hr'⟩ (by simp [hl'])
def seedOf (ns : List Int) (s : Int) : Int := ns.foldl (fun s c => (s * 31 + (if c < 0 then -c else c)) % 2147483647) s
def spRandom (K : PySem.W.Frag) : Sp := fun vs H Q _ => ∃ (a : Addr) (ns : List Int) (salt : Int), vs = [.ref a, .int salt] ∧ SqL K H a (ivs ns) ∧ ns.length ≤ 63 ∧ 0 ≤ salt ∧
  ∀ H' p l, Same H H' → H p = none → Src l → l.length ≤ 65 → H' p = some (.lst (ivs l)) → Q (.ref p) H'
abbrev s__law_random : Stmt := top 36
theorem sc__law_random : FnScope ["_law_script", "_law_salt", "_law_seed", "_law_cell"] ["_law_script", "_law_salt"] (defScope s__law_random) := ⟨rfl, rfl, rfl, by decide +kernel, rfl, by decide +kernel, by decide +kernel⟩

theorem ok_random {f : Addr} {fd : FuncData} (F : FnP K "_law_random" "_law_random" s__law_random f fd) (T : Tx mg) : FnOk P w K mg base CX0 1 f fd ["_law_script", "_law_salt"] (spRandom K) := by
  refine F.ok sc__law_random (fun vs H Q E h => ?_) (fun cdv A outer s H vs Q E hr h => ?_)
  · obtain ⟨d, l, n, rfl, _⟩ := h
    rfl
  · obtain ⟨a, ns, salt, rfl, hS, hlen, hs0, k⟩ := h
    refine ⟨_, PSs.nox 
      (pss_cons (ps_set (i := 2) sc__law_random.nd rfl (.inl rfl) (pv 1))
      (pss_cons (ps_for PassesOwn.never rfl (iL K (pv 0)) (pg_name (i := 3) sc__law_random.nd rfl (Or.inl rfl)) 
        (pss_one (ps_set (i := 2) sc__law_random.nd rfl (.inl rfl) (pe_op op_mod (pe_op op_add (pe_op op_mul (pv 2) pe_int) (pe_callB call_abs (by rfl) T.f_abs (by decide +kernel) (pa_cons (pv 3) pa_nil))) pe_int))))
      (pss_one (ps_ret (pe_op op_cat (pe_lst (pa_cons (pv 2) (pa_cons pe_int pa_nil))) (pe_lc (own := [("_law_cell", 3)]) rfl sc__law_random.nd (iL K (pv 0)) (blkOk_by (own := [("_law_cell", 3)]) (N := ["_law_script", "_law_salt", "_law_seed", "_law_cell"]) (sc := defScope s__law_random) (by decide +kernel)) (fun _ _ _ _ _ => (pg_name (i := 3) sc__law_random.nd rfl (Or.inl rfl))) (fun _ _ _ _ _ => (pts_one (pt_cmpR op_ge (pv 3) (pe_op op_pow pe_int pe_int) (nomark _)))) (fun _ _ _ _ _ => (pv 3)))))))), ?_⟩
    refine ⟨_, rfl, ?_⟩
    refine ⟨_, rfl, a, rfl, ⟨_, hS⟩, for_list (K := K) (a := a) (xs := ivs ns) (fun i σ H' => ∃ (z : Int) (c : Option V), σ = [some (.ref a), some (.int salt), some (.int z), c] ∧ H' = H ∧ 0 ≤ z)
      ⟨salt, none, rfl, rfl, hs0⟩ ?_ ?_ ?_⟩
    · rintro i σ H' _ ⟨z, c, _, rfl, _⟩
      exact hS
    · rintro i x σ H' hi ⟨z, c, rfl, rfl, hz⟩
      obtain ⟨u, _, rfl⟩ := ivs_get hi
      refine ⟨_, rfl, _, _, rfl, rfl, .inr ⟨by decide, by decide⟩, _, rfl, _, rfl, _, _, rfl, rfl, _, _, rfl, rfl, (by show (0 : Int) < 2147483647; decide), ?_⟩
      exact ⟨_, _, rfl, rfl, Int.emod_nonneg _ (by decide)⟩
    · rintro σ H' ⟨z, c, rfl, rfl, hz⟩
      refine ⟨_, rfl, (by show 2 ≤ sizeLine; decide), fun p hp => ?_⟩
      have s1 : Same H' (upd H' p (.lst [.int z, .int 0])) := Evl.Ex.new hp
      refine ⟨_, rfl, a, rfl, ⟨_, s1.seq hS⟩, fun D hD => ?_⟩
      have hpD : p ≠ D := ne_of_none upd_same hD
      have hD0 : H' D = none := s1.free hD
      refine lc_it (walk_list (K := K) (a := a) (xs := ivs ns)) (fun i G => ∃ l : List Int, (∀ x ∈ l, (0 : Int) ≤ x) ∧ l.length ≤ i ∧ G = upd (upd H' p (.lst [.int z, .int 0])) D (.lst (ivs l)))
        ⟨[], by simp, Nat.le_refl _, rfl⟩ ?_ ?_ ?_
      · rintro i G _ ⟨l, _, _, rfl⟩
        exact (Same.trans s1 (Evl.Ex.new hD)).seq hS
      · rintro i x G G' hi ⟨l, hl, hll, rfl⟩ ⟨rfl, hx⟩
        obtain ⟨u, _, rfl⟩ := ivs_get hx
        refine ⟨rfl, _, rfl, _, _, rfl, rfl, ⟨by decide, by decide, by decide⟩, _, _, rfl, rfl, _, rfl, ?_⟩
        refine iteD (fun h0 => ?_) (fun h0 => ?_)
        · refine ⟨_, rfl, _, upd_same, ?_, l ++ [u], ?_, ?_, ?_⟩
          · unfold ivs at *
            rw [List.length_map] at *
            exact Nat.lt_of_le_of_lt (Nat.le_trans hll (Nat.le_trans (Nat.le_of_lt hi) hlen)) (by decide)
          · intro y hy
            rcases List.mem_append.mp hy with hy | hy
            · exact hl y hy
            · rw [List.mem_singleton.mp hy]
              exact Int.le_trans (by decide) h0
          · rw [List.length_append, List.length_singleton]
            omega
          · rw [upd_upd]
            unfold ivs
            rw [List.map_append]
            rfl
        · exact ⟨l, hl, Nat.le_succ_of_le hll, rfl⟩
      · rintro G ⟨l, hl, hll, rfl⟩
        have hl63 : l.length ≤ 63 := by
          unfold ivs at hll
          rw [List.length_map] at hll
          omega
        refine ⟨p, D, _, _, rfl, rfl, (by rw [upd_ne hpD]; exact upd_same), upd_same, ?_, fun q hq => ?_⟩
        · unfold ivs
          rw [List.length_map]
          exact Nat.le_trans (show 2 + l.length ≤ 100 by omega) (by decide)
        · refine k _ q (z :: 0 :: l) ((s1.trans (Evl.Ex.new hD)).trans (Evl.Ex.new hq)) ((s1.trans (Evl.Ex.new hD)).free hq) ⟨z, 0, l, rfl, hz, by decide, hl⟩ (by simp; omega) upd_same
end
end Bk
/-! ### random people -/
namespace Bk
open PySem PySem.Spec PyProof.Rows L2
def stdNames : List Str := ["a", "bo", "carl", "dora", "ella", "f", "gustav", "hannah", "iris", "jo", "k", "lllllllz"]
theorem std_name : ∀ x ∈ stdNames, isName x = true := by
  have h : stdNames.all isName = true := by decide +kernel
  exact List.all_eq_true.mp h
theorem std_ok : ∀ x ∈ stdNames, PyData.strOk x = true := by
  have h : stdNames.all PyData.strOk = true := by decide +kernel
  exact List.all_eq_true.mp h
theorem std_nd : stdNames.Nodup := by decide +kernel
def spShuf (K : PySem.W.Frag) : Sp := fun vs H Q _ => ∃ (d a : Addr) (l : List Int) (xs : List Str), vs = [.ref d, .ref a] ∧ H d = some (.lst (ivs l)) ∧ Src l ∧ a ≠ d ∧ SqL K H a (xs.map V.str) ∧ (∀ x ∈ xs, PyData.strOk x = true) ∧ xs.length ≤ 1000 ∧
  ∀ (H' : Hp) (p : Addr) (l' : List Int) (ys : List Str), ys.Perm xs → Src l' → Same (delH H d) H' → H' d = some (.lst (ivs l')) → H p = none → H' p = some (.lst (ys.map V.str)) → Q (.ref p) H'
def spPeople (K : PySem.W.Frag) : Sp := fun vs H Q _ => ∃ (d : Addr) (l : List Int) (most : Int), vs = [.ref d, .int most] ∧ H d = some (.lst (ivs l)) ∧ Src l ∧ 2 ≤ most ∧ most ≤ 12 ∧
  ∀ H' p l' ps, Valid ps → (ps.length : Int) ≤ most → (∀ q ∈ ps, q.1 ∈ stdNames) → Src l' → Same (delH H d) H' → H' d = some (.lst (ivs l')) → H p = none → Own K (delH H' d) p (pyPs ps) → Q (.ref p) H'
section
variable {P : Program} {w : World} {K : PySem.W.Frag} {mg : Str → Option Value} {base : Heap}
abbrev s__law_shuffled : Stmt := top 38
theorem sc__law_shuffled : FnScope ["_law_d", "_law_items", "_law_pool", "_law_result"] ["_law_d", "_law_items"] (defScope s__law_shuffled) := ⟨rfl, rfl, rfl, by decide +kernel, rfl, by decide +kernel, by decide +kernel⟩

theorem ok_shuf {f : Addr} {fd : FuncData} (F : FnP K "_law_shuffled" "_law_shuffled" s__law_shuffled f fd) (T : Tx mg) (cBelow : C8.Cal P w K mg base 1 "_law_below" spBelow []) : FnOk P w K mg base CX0 2 f fd ["_law_d", "_law_items"] (spShuf K) := by
  refine F.ok sc__law_shuffled (fun vs H Q E h => ?_) (fun cdv A outer s H vs Q E hr h => ?_)
  · obtain ⟨_, _, _, _, rfl, _⟩ := h
    rfl
  · obtain ⟨d, a, l, xs, rfl, hd, hs, had, hS, hok, hlen, k⟩ := h
    refine ⟨_, PSs.nox 
      (pss_cons (ps_set (i := 2) sc__law_shuffled.nd rfl (.inl rfl) (pe_callTy (c_list K) (by rfl) T.f_list (by decide +kernel) (pa_cons (pv 1) pa_nil)))
      (pss_cons (ps_set (i := 3) sc__law_shuffled.nd rfl (.inl rfl) (pe_lst pa_nil))
      (pss_cons (ps_while PassesOwn.never (pt_cmpR (o_neD K hr.units) (pv 2) (pe_lst pa_nil) (nomark _)) 
        (pss_one (ps_expr (e_bm K PySem.F.plainAttrs_list PySem.F.slot_list_append PySem.F.type_list_append mt_append (pv 3) (pa_cons (e_bm K PySem.F.plainAttrs_list PySem.F.slot_list_pop PySem.F.type_list_pop mt_popAt (pv 2) (pa_cons (C8.pe_c cBelow hr (by decide) rfl (pa_cons (pv 0) (pa_cons (pe_callB (c_len K) (by rfl) T.f_len PySem.boot_len (pa_cons (pv 2) pa_nil)) pa_nil))) pa_nil)) pa_nil)))))
      (pss_one (ps_ret (pv 3)))))), ?_⟩
    refine ⟨_, rfl, a, _, rfl, .inl hS, fun pl hpl => ?_⟩
    refine ⟨Nat.zero_le _, fun rl hrl => ?_⟩
    have hrp : rl ≠ pl := fun e => by rw [e, upd_same] at hrl; cases hrl
    have hrl0 : H rl = none := by rw [upd_ne hrp] at hrl; exact hrl
    have hdp : d ≠ pl := ne_of_none hd hpl
    have hdr : d ≠ rl := ne_of_none hd hrl0
    refine ⟨fun m σ H' => ∃ (l' : List Int) (pool res : List Str), σ = [some (.ref d), some (.ref a), some (.ref pl), some (.ref rl)] ∧ m = pool.length ∧ H' d = some (.lst (ivs l')) ∧ Src l' ∧ H' pl = some (.lst (pool.map V.str)) ∧ H' rl = some (.lst (res.map V.str)) ∧
      Same (delH H d) H' ∧ (res ++ pool).Perm xs, ⟨xs.length, l, xs, [], rfl, rfl, ?_, hs, ?_, upd_same, ?_, List.Perm.refl _⟩, ?_⟩
    · rw [upd_ne hdr, upd_ne hdp]; exact hd
    · rw [upd_ne (Ne.symm hrp)]; exact upd_same
    · exact (same_del.trans (same_new hpl)).trans (same_new hrl)
    · rintro m σ H' ⟨l', pool, res, rfl, rfl, h1, h2, h3, h4, h5, hp⟩
      have hlen2 := hp.length_eq
      rw [List.length_append] at hlen2
      refine ⟨_, rfl, Nat.zero_le _, fun e he => ?_⟩
      have s1 : Same H' (upd H' e (.lst [])) := same_new he
      refine ⟨_, _, dp_mk_lst (s1 _ _ h3) (dps_strs pool), dp_mk_lst upd_same .nil, shaped_strs fun x hx => hok x (hp.mem_iff.mp (by simp [hx])), by decide +kernel, _, rfl, ?_⟩
      rw [eqv_nil]
      generalize upd H' e (.lst []) = H1 at *
      cases pool with
      | nil =>
        refine iteF ?_
        refine ⟨_, rfl, ?_⟩
        refine k H1 rl l' res (by simpa using hp) h2 (h5.trans s1) (s1 _ _ h1) hrl0 (s1 _ _ h4)
      | cons z pool =>
        refine iteT ?_
        refine ⟨fun σ2 H2 => ∃ (l' : List Int) (pool' res : List Str), σ2 = [some (.ref d), some (.ref a), some (.ref pl), some (.ref rl)] ∧ pool'.length = pool.length ∧ H2 d = some (.lst (ivs l')) ∧ Src l' ∧ H2 pl = some (.lst (pool'.map V.str)) ∧ H2 rl = some (.lst (res.map V.str)) ∧
          Same (delH H d) H2 ∧ (res ++ pool').Perm xs, ?_, ?_⟩
        · rintro σ2 H2 ⟨l', pool', res, e1, e2, e3⟩
          exact ⟨pool'.length, by simp [e2], l', pool', res, e1, rfl, e3⟩
        · refine ⟨_, rfl, .inl ⟨rfl, _, SqL.of (s1 _ _ h4)⟩, _, rfl, .inl ⟨rfl, _, SqL.of (s1 _ _ h3)⟩, _, rfl, _, rfl, pl, _, rfl, .inl (SqL.of (s1 _ _ h3)), ?_⟩
          refine ⟨d, l', _, rfl, s1 _ _ h1, h2, ?_, ?_, fun r l2 r0 r1 src2 hl2 => ?_⟩
          · rw [List.length_map, List.length_cons]; omega
          · rw [List.length_map]; omega
          rw [List.length_map] at r1
          have hk : r.toNat < (z :: pool).length := by omega
          have hH2pl : upd H1 d (.lst (ivs l2)) pl = some (.lst ((z :: pool).map V.str)) := by rw [upd_ne (Ne.symm hdp)]; exact s1 _ _ h3
          have hH2rl : upd H1 d (.lst (ivs l2)) rl = some (.lst (res.map V.str)) := by rw [upd_ne (Ne.symm hdr)]; exact s1 _ _ h4
          refine ⟨pl, _, r, r.toNat, .str ((z :: pool)[r.toNat]), rfl, rfl, hH2pl, by omega, by omega, ?_, ?_, ?_⟩
          · rw [List.length_map]
            exact (ixN_seq (ixN_of r0 r1)).1
          · rw [List.getElem?_map, List.getElem?_eq_getElem hk]
            rfl
          refine ⟨rl, _, _, rfl, rfl, by rw [upd_ne hrp]; exact hH2rl, ?_, l2, (z :: pool).eraseIdx r.toNat, res ++ [(z :: pool)[r.toNat]], rfl, ?_, ?_, src2, ?_, ?_, ?_, ?_⟩
          · rw [List.length_map]
            exact szl (by omega)
          · rw [List.length_eraseIdx_of_lt hk]
            rfl
          · rw [upd_ne hdr, upd_ne hdp]; exact upd_same
          · rw [upd_ne (Ne.symm hrp), upd_same, map_erase]
          · rw [upd_same, List.map_append]
            rfl
          · have hd0 : delH H d pl = none := by rw [delH_ne (Ne.symm hdp)]; exact hpl
            have hd1 : delH H d rl = none := by rw [delH_ne (Ne.symm hdr)]; exact hrl0
            exact same_mut (same_mut (same_mut (h5.trans s1) delH_same) hd0) hd1
          · refine List.Perm.trans ?_ hp
            rw [List.append_assoc]
            exact List.Perm.append_left _ (erase_perm _ _ hk)
abbrev s__law_people : Stmt := top 39
theorem sc__law_people : FnScope ["_law_d", "_law_most", "_law_names", "_law_top", "_law_found", "_law_k"] ["_law_d", "_law_most"] (defScope s__law_people) := ⟨rfl, rfl, rfl, by decide +kernel, rfl, by decide +kernel, by decide +kernel⟩

theorem pick3 {r : Int} (h0 : 0 ≤ r) (h1 : r < 3) : ∃ t : Int, atI [V.int 3, V.int 9, V.int 1000] r = some (.int t) ∧ 1 ≤ t ∧ t ≤ 1000 := by
  have h : r = 0 ∨ r = 1 ∨ r = 2 := by omega
  rcases h with rfl | rfl | rfl
  · exact ⟨3, rfl, by decide, by decide⟩
  · exact ⟨9, rfl, by decide, by decide⟩
  · exact ⟨1000, rfl, by decide, by decide⟩
theorem ok_people {f : Addr} {fd : FuncData} (F : FnP K "_law_people" "_law_people" s__law_people f fd) (T : Tx mg) (cBelow : C8.Cal P w K mg base 1 "_law_below" spBelow []) (cShuf : C8.Cal P w K mg base 2 "_law_shuffled" (spShuf K) []) : FnOk P w K mg base CX0 3 f fd ["_law_d", "_law_most"] (spPeople K) := by
  refine F.ok sc__law_people (fun vs H Q E h => ?_) (fun cdv A outer s H vs Q E hr h => ?_)
  · obtain ⟨_, _, _, rfl, _⟩ := h
    rfl
  · obtain ⟨d, l, most, rfl, hd, hs, hm0, hm1, k⟩ := h
    refine ⟨_, PSs.nox 
      (pss_cons (ps_set (i := 2) sc__law_people.nd rfl (.inl rfl) (pe_lst (pa_cons pe_str (pa_cons pe_str (pa_cons pe_str (pa_cons pe_str (pa_cons pe_str (pa_cons pe_str (pa_cons pe_str (pa_cons pe_str (pa_cons pe_str (pa_cons pe_str (pa_cons pe_str (pa_cons pe_str pa_nil))))))))))))))
      (pss_cons (ps_set (i := 2) sc__law_people.nd rfl (.inl rfl) (C8.pe_c cShuf hr (by decide) rfl (pa_cons (pv 0) (pa_cons (pv 2) pa_nil))))
      (pss_cons (ps_par (i := 3) (j := 4) (by rfl) sc__law_people.nd rfl rfl (by decide) rfl rfl (pa_cons (pe_ix (ixL K) (pe_lst (pa_cons pe_int (pa_cons pe_int (pa_cons pe_int pa_nil)))) (C8.pe_c cBelow hr (by decide) rfl (pa_cons (pv 0) (pa_cons pe_int pa_nil))) (fun _ _ => rfl)) (pa_cons (pe_lst pa_nil) pa_nil)) (by rfl))
      (pss_cons (ps_for PassesOwn.never rfl (pi_range1 rfl T.f_range (pa_cons (pe_op op_add pe_int (C8.pe_c cBelow hr (by decide) rfl (pa_cons (pv 0) (pa_cons (pe_op op_sub (pv 1) pe_int) pa_nil)))) pa_nil)) (pg_name (i := 5) sc__law_people.nd rfl (Or.inl rfl)) 
        (pss_one (ps_expr (e_bm K PySem.F.plainAttrs_list PySem.F.slot_list_append PySem.F.type_list_append mt_append (pv 4) (pa_cons (pe_tup (pa_cons (pe_ix (ixL K) (pv 2) (pv 5) (fun _ _ => rfl)) (pa_cons (pe_op op_add pe_int (C8.pe_c cBelow hr (by decide) rfl (pa_cons (pv 0) (pa_cons (pv 3) pa_nil)))) pa_nil))) pa_nil)))))
      (pss_one (ps_ret (pv 4))))))), ?_⟩
    refine ⟨(by show 12 ≤ sizeLine; decide), fun n0 hn0 => ?_⟩
    have hdn : n0 ≠ d := fun e => by rw [e, hd] at hn0; cases hn0
    refine ⟨_, rfl, _, rfl, d, n0, l, stdNames, rfl, by rw [upd_ne (Ne.symm hdn)]; exact hd, hs, hdn, SqL.of upd_same, std_ok, by decide, fun H1 nm l1 ys hp src1 s1 h1d hnm h1n => ?_⟩
    have s01 : Same (delH H d) H1 := fun b o e => s1 b o (by
      have nb : b ≠ d := fun z => by rw [z, delH_same] at e; cases e
      rw [delH_ne nb] at e ⊢
      rw [upd_ne (ne_of_none e hn0)]
      exact e)
    have hnmd : nm ≠ d := fun e => by rw [e, upd_ne (Ne.symm hdn), hd] at hnm; cases hnm
    have ylen : ys.length = 12 := hp.length_eq
    -- top, found
    refine ⟨(by show 3 ≤ sizeLine; decide), fun t3 ht3 => ?_⟩
    have ht3d : t3 ≠ d := fun e => by rw [e, h1d] at ht3; cases ht3
    refine ⟨_, rfl, d, l1, 3, rfl, by rw [upd_ne (Ne.symm ht3d)]; exact h1d, src1, by decide, by decide, fun r2 l2 r20 r21 src2 hl2 => ?_⟩
    obtain ⟨top, htop, htop1, htop2⟩ := pick3 r20 r21
    refine ⟨t3, _, r2, _, rfl, rfl, SqL.of (by rw [upd_ne ht3d]; exact upd_same), htop, ?_⟩
    refine ⟨Nat.zero_le _, fun fl hfl => ?_⟩
    have hfd : fl ≠ d := fun e => by rw [e, upd_same] at hfl; cases hfl
    have hf1 : H1 fl = none := by
      rw [upd_ne hfd] at hfl
      exact (same_new ht3).free hfl
    have s03 : Same (delH H d) (upd (upd (upd H1 t3 (.lst [.int 3, .int 9, .int 1000])) d (.lst (ivs l2))) fl (.lst [])) :=
      (same_mut (s01.trans (same_new ht3)) delH_same).trans (same_new hfl)
    have h3d : upd (upd (upd H1 t3 (.lst [.int 3, .int 9, .int 1000])) d (.lst (ivs l2))) fl (.lst []) d = some (.lst (ivs l2)) := by rw [upd_ne (Ne.symm hfd)]; exact upd_same
    have h3f : upd (upd (upd H1 t3 (.lst [.int 3, .int 9, .int 1000])) d (.lst (ivs l2))) fl (.lst []) fl = some (.lst []) := upd_same
    have hnf : nm ≠ fl := ne_of_none h1n hf1
    have hnt : nm ≠ t3 := ne_of_none h1n ht3
    have h3n : upd (upd (upd H1 t3 (.lst [.int 3, .int 9, .int 1000])) d (.lst (ivs l2))) fl (.lst []) nm = some (.lst (ys.map V.str)) := by
      rw [upd_ne hnf, upd_ne hnmd, upd_ne hnt]; exact h1n
    have hf0 : H fl = none := by
      cases q : H fl with
      | none => rfl
      | some o =>
        have : delH H d fl = some o := by rw [delH_ne hfd]; exact q
        rw [s01 _ _ this] at hf1
        cases hf1
    generalize upd (upd (upd H1 t3 (.lst [.int 3, .int 9, .int 1000])) d (.lst (ivs l2))) fl (.lst []) = H3 at *
    refine ⟨_, _, rfl, ?_⟩
    -- for k in range(2 + below)
    refine ⟨_, rfl, _, rfl, _, _, rfl, rfl, d, l2, _, rfl, h3d, src2, by omega, by omega, fun r4 l4 r40 r41 src4 hl4 => ?_⟩
    refine ⟨_, _, rfl, rfl, _, rfl, by omega, by omega, ?_⟩
    have hn12 : ((2 + r4).toNat : Nat) ≤ 12 := by omega
    have s04 : Same (delH H d) (upd H3 d (.lst (ivs l4))) := same_mut s03 delH_same
    refine for_it (walk_range (lo := 0) (n := (2 + r4).toNat)) (fun i σ H' => ∃ (l' : List Int) (ps : List Person) (v5 : Option V), σ = [some (.ref d), some (.int most), some (.ref nm), some (.int top), some (.ref fl), v5] ∧ H' d = some (.lst (ivs l')) ∧ Src l' ∧
      H' nm = some (.lst (ys.map V.str)) ∧ Own K (delH H' d) fl (pyPs ps) ∧ Same (delH H d) H' ∧ ps.map (·.1) = ys.take i ∧ ∀ q ∈ ps, 1 ≤ q.2 ∧ q.2 ≤ 1000)
      ⟨l4, [], none, rfl, upd_same, src4, by rw [upd_ne hnmd]; exact h3n, Own.nil (by rw [delH_ne hfd, upd_ne hfd]; exact h3f), s04, rfl, by simp⟩ (fun _ _ _ _ _ => trivial) ?_ ?_
    · rintro i x σ H' H5 hi ⟨l', ps, v5, rfl, h1, h2, h3, ⟨us, h4, h5⟩, h6, h7, h8⟩ ⟨rfl, rfl⟩
      have h4' : H5 fl = some (.lst us) := same_del _ _ h4
      have hiy : i < ys.length := by omega
      have plen : ps.length = i := by
        have := congrArg List.length h7
        rw [List.length_map, List.length_take] at this
        omega
      have ulen : us.length = i := by rw [h5.len]; unfold pyPs; rw [List.length_map]; exact plen
      have eat : atI (ys.map V.str) (0 + (i : Int)) = some (.str ys[i]) := by
        rw [Int.zero_add]
        refine atI_nat ?_
        rw [List.getElem?_map, List.getElem?_eq_getElem hiy]
        rfl
      refine ⟨_, rfl, .inl ⟨rfl, _, SqL.of h4'⟩, _, rfl, _, rfl, nm, _, _, _, rfl, rfl, SqL.of h3, eat, ?_⟩
      refine ⟨_, rfl, _, rfl, d, l', top, rfl, h1, h2, htop1, by omega, fun r l6 r0 r1 src6 hl6 => ?_⟩
      refine ⟨_, _, rfl, rfl, (by show 2 ≤ sizeLine; decide), fun t ht => ?_⟩
      have htd : t ≠ d := fun e => by rw [e, upd_same] at ht; cases ht
      have ht5 : H5 t = none := by rw [upd_ne htd] at ht; exact ht
      have htf : t ≠ fl := fun e => by rw [e, h4'] at ht5; cases ht5
      have htn : t ≠ nm := fun e => by rw [e, h3] at ht5; cases ht5
      refine ⟨fl, us, _, rfl, rfl, by rw [upd_ne (Ne.symm htf), upd_ne hfd]; exact h4', szl (by omega), l6, ps ++ [(ys[i], 1 + r)], _, rfl, ?_, src6, ?_, ?_, ?_, ?_, ?_⟩
      · rw [upd_ne (Ne.symm hfd), upd_ne (Ne.symm htd)]; exact upd_same
      · rw [upd_ne hnf, upd_ne (Ne.symm htn), upd_ne hnmd]; exact h3
      · rw [del_upd_ne hfd, del_upd_ne htd, delH_upd]
        unfold pyPs
        rw [List.map_append]
        have ht6 : delH H5 d t = none := by rw [delH_ne htd]; exact ht5
        refine Own.push (h5.same (del_new htf ht6)) ?_
        exact dp_mk_tup (by rw [delH_ne htf]; exact upd_same) (.cons (.str _) (.cons (.int _) .nil))
      · have g1 : delH H d fl = none := by rw [delH_ne hfd]; exact hf0
        exact same_mut ((same_mut h6 delH_same).trans (same_new ht)) g1
      · rw [List.map_append, h7, List.take_add_one, List.getElem?_eq_getElem hiy]
        rfl
      · intro q hq
        rcases List.mem_append.mp hq with hq | hq
        · exact h8 q hq
        · rw [List.mem_singleton.mp hq]
          show 1 ≤ 1 + r ∧ 1 + r ≤ 1000
          omega
    · rintro σ H' ⟨l', ps, v5, rfl, h1, h2, h3, h4, h6, h7, h8⟩
      have plen : ps.length = (2 + r4).toNat := by
        have := congrArg List.length h7
        rw [List.length_map, List.length_take] at this
        omega
      have hin : ∀ q ∈ ps, q.1 ∈ stdNames := fun q hq => by
        have : q.1 ∈ ps.map (·.1) := List.mem_map_of_mem hq
        rw [h7] at this
        exact hp.mem_iff.mp (List.mem_of_mem_take this)
      refine ⟨_, rfl, ?_⟩
      refine k H' fl l' ps ⟨by omega, by omega, ?_, fun q hq => std_name _ (hin q hq), h8⟩ (by omega) hin h2 h6 h1 hf0 h4
      rw [h7]
      exact (List.take_sublist _ _).nodup (hp.nodup_iff.mpr std_nd)
end
end Bk
/-! ### equal values of the same kind -/
namespace Bk
open PySem PySem.Spec PyProof.Rows L2
def Fit : Nat → PyData → Prop
  | _, .none => True
  | _, .bool _ => True
  | _, .int _ => True
  | _, .str _ => True
  | 0, .list _ => False
  | 0, .tuple _ => False
  | n + 1, .list xs => xs.length ≤ 3000 ∧ ∀ x ∈ xs, Fit n x
  | n + 1, .tuple xs => xs.length ≤ 3000 ∧ ∀ x ∈ xs, Fit n x
  | _, .dict _ => False
def spEq (K : PySem.W.Frag) (n : Nat) : Sp := fun vs H Q _ => ∃ x y d, vs = [x, y] ∧ Dp K H x d ∧ Dp K H y d ∧ Fit n d ∧ ∀ H', Same H H' → Q (.bl true) H'
def spEqP (K : PySem.W.Frag) : Nat → Sp
  | 0 => fun _ _ _ _ => False
  | n + 1 => spEq K n
theorem tyx_l {K : PySem.W.Frag} {H : Hp} {a : Addr} {xs : List V} (h : SqL K H a xs) : TyX K H (.ref a) (.type "list") := by
  rcases h with (h | ⟨o, h⟩) | ⟨o, its, n, h1, h2, _⟩
  · exact .base (.lst h)
  · exact .base (.frz h)
  · exact .kList h1 h2
theorem tyx_t {K : PySem.W.Frag} {H : Hp} {a : Addr} {xs : List V} (h : SqT K H a xs) : TyX K H (.ref a) (.type "tuple") := by
  rcases h with (h | ⟨o, h⟩) | ⟨o, its, n, h1, h2, _⟩
  · exact .base (.tup h)
  · exact .fTuple h
  · exact .kTuple h1 h2
section
variable {P : Program} {w : World} {K : PySem.W.Frag} {mg : Str → Option Value} {base : Heap}
abbrev s__law_equal : Stmt := top 46
theorem sc__law_equal : FnScope ["_law_actual", "_law_expected", "_law_k"] ["_law_actual", "_law_expected"] (defScope s__law_equal) := ⟨rfl, rfl, rfl, by decide +kernel, rfl, by decide +kernel, by decide +kernel⟩

theorem eq_body {f : Addr} {fd : FuncData} {n : Nat} (F : FnP K "_law_equal" "_law_equal" s__law_equal f fd) (T : Tx mg) (cEq : C8.Cal P w K mg base n "_law_equal" (spEqP K n) []) : FnOk P w K mg base CX0 (n + 1) f fd ["_law_actual", "_law_expected"] (spEq K n) := by
  refine F.ok sc__law_equal (fun vs H Q E h => ?_) (fun cdv A outer s H vs Q E hr h => ?_)
  · obtain ⟨x, y, d, rfl, _⟩ := h
    rfl
  · obtain ⟨x, y, d, rfl, hx, hy, hf, k⟩ := h
    refine ⟨_, PSs.nox 
      (pss_cons (ps_if (pt_cmpR op_isN (pv 1) pe_non (nomark _)) 
        (pss_one (ps_ret (pe_cmpR op_isN (pv 0) pe_non (nomark _)))) pss_nil)
      (pss_cons (ps_if (pt_val (pe_callB (c_isi K) (by rfl) T.f_isinstance (by decide +kernel) (pa_cons (pv 1) (pa_cons (pe_bltn (v := .ty "bool") (by rfl) T.f_bool (by decide +kernel) rfl) pa_nil)))) 
        (pss_one (ps_ret (pe_and (pe_callB (c_isi K) (by rfl) T.f_isinstance (by decide +kernel) (pa_cons (pv 0) (pa_cons (pe_bltn (v := .ty "bool") (by rfl) T.f_bool (by decide +kernel) rfl) pa_nil))) (pe_one (pe_cmpR op_eq (pv 0) (pv 1) (nomark _)))))) pss_nil)
      (pss_cons (ps_if (pt_val (pe_callB (c_isi K) (by rfl) T.f_isinstance (by decide +kernel) (pa_cons (pv 1) (pa_cons (pe_bltn (v := .ty "int") (by rfl) T.f_int (by decide +kernel) rfl) pa_nil)))) 
        (pss_one (ps_ret (pe_and (pe_callB (c_isi K) (by rfl) T.f_isinstance (by decide +kernel) (pa_cons (pv 0) (pa_cons (pe_bltn (v := .ty "int") (by rfl) T.f_int (by decide +kernel) rfl) pa_nil))) (pe_and (pe_not (pe_callB (c_isi K) (by rfl) T.f_isinstance (by decide +kernel) (pa_cons (pv 0) (pa_cons (pe_bltn (v := .ty "bool") (by rfl) T.f_bool (by decide +kernel) rfl) pa_nil)))) (pe_one (pe_cmpR op_eq (pv 0) (pv 1) (nomark _))))))) pss_nil)
      (pss_cons (ps_if (pt_val (pe_callB (c_isi K) (by rfl) T.f_isinstance (by decide +kernel) (pa_cons (pv 1) (pa_cons (pe_bltn (v := .ty "str") (by rfl) T.f_str (by decide +kernel) rfl) pa_nil)))) 
        (pss_one (ps_ret (pe_and (pe_callB (c_isi K) (by rfl) T.f_isinstance (by decide +kernel) (pa_cons (pv 0) (pa_cons (pe_bltn (v := .ty "str") (by rfl) T.f_str (by decide +kernel) rfl) pa_nil))) (pe_one (pe_cmpR op_eq (pv 0) (pv 1) (nomark _)))))) pss_nil)
      (pss_cons (ps_if (pt_cmpR op_ne (pe_callB (c_isi K) (by rfl) T.f_isinstance (by decide +kernel) (pa_cons (pv 1) (pa_cons (pe_bltn (v := .ty "tuple") (by rfl) T.f_tuple (by decide +kernel) rfl) pa_nil))) (pe_callB (c_isi K) (by rfl) T.f_isinstance (by decide +kernel) (pa_cons (pv 0) (pa_cons (pe_bltn (v := .ty "tuple") (by rfl) T.f_tuple (by decide +kernel) rfl) pa_nil))) (nomark _)) 
        (pss_one (ps_ret pe_bl)) pss_nil)
      (pss_cons (ps_if (pt_cmpR op_ne (pe_callB (c_isi K) (by rfl) T.f_isinstance (by decide +kernel) (pa_cons (pv 1) (pa_cons (pe_bltn (v := .ty "list") (by rfl) T.f_list (by decide +kernel) rfl) pa_nil))) (pe_callB (c_isi K) (by rfl) T.f_isinstance (by decide +kernel) (pa_cons (pv 0) (pa_cons (pe_bltn (v := .ty "list") (by rfl) T.f_list (by decide +kernel) rfl) pa_nil))) (nomark _)) 
        (pss_one (ps_ret pe_bl)) pss_nil)
      (pss_cons (ps_if (pt_cmpR op_ne (pe_callB (c_len K) (by rfl) T.f_len PySem.boot_len (pa_cons (pv 0) pa_nil)) (pe_callB (c_len K) (by rfl) T.f_len PySem.boot_len (pa_cons (pv 1) pa_nil)) (nomark _)) 
        (pss_one (ps_ret pe_bl)) pss_nil)
      (pss_one (ps_ret (pe_callB (c_all K rfl) (by rfl) T.f_all (by decide +kernel) (pa_cons (pe_lc (own := [("_law_k", 2)]) rfl sc__law_equal.nd (pi_range1 rfl T.f_range (pa_cons (pe_callB (c_len K) (by rfl) T.f_len PySem.boot_len (pa_cons (pv 1) pa_nil)) pa_nil)) (blkOk_by (own := [("_law_k", 2)]) (N := ["_law_actual", "_law_expected", "_law_k"]) (sc := defScope s__law_equal) (by decide +kernel)) (fun _ _ _ _ _ => (pg_name (i := 2) sc__law_equal.nd rfl (Or.inl rfl))) (fun _ _ _ _ _ => pts_nil) (fun _ _ _ _ _ => (C8.pe_c cEq hr (Nat.le_refl _) rfl (pa_cons (pe_ix (ixQ K) (pv 0) (pv 2) (fun _ _ => rfl)) (pa_cons (pe_ix (ixQ K) (pv 1) (pv 2) (fun _ _ => rfl)) pa_nil))))) pa_nil))))))))))), ?_⟩
    have kt : ∀ {a b : String} {r : Bool}, kitB a b = some r → PySem.W.kitOne K (.type a) (.type b) = some r := fun h => kit_ty h
    cases d with
    | none =>
      obtain rfl := dp_non hx
      obtain rfl := dp_non hy
      exact ⟨_, rfl, rfl, _, rfl, iteT ⟨_, rfl, rfl, k _ (Same.refl _)⟩⟩
    | bool b =>
      obtain rfl := dp_bl hx
      obtain rfl := dp_bl hy
      refine ⟨_, rfl, rfl, _, rfl, iteF ?_⟩
      refine ⟨_, rfl, _, _, _, _, _, rfl, .ty _, .base (.bl b), kt (r := true) (by decide +kernel), _, rfl, iteT ?_⟩
      refine ⟨_, rfl, _, _, _, _, _, rfl, .ty _, .base (.bl b), kt (r := true) (by decide +kernel), _, rfl, iteT ?_⟩
      refine ⟨_, rfl, _, rfl, rfl, ?_⟩
      show Q (.bl (decide (V.bl b = V.bl b))) H
      rw [decide_eq_true rfl]
      exact k _ (Same.refl _)
    | int i =>
      obtain rfl := dp_int hx
      obtain rfl := dp_int hy
      refine ⟨_, rfl, rfl, _, rfl, iteF ?_⟩
      refine ⟨_, rfl, _, _, _, _, _, rfl, .ty _, .base (.int i), kt (r := false) (by decide +kernel), _, rfl, iteF ?_⟩
      refine ⟨_, rfl, _, _, _, _, _, rfl, .ty _, .base (.int i), kt (r := true) (by decide +kernel), _, rfl, iteT ?_⟩
      refine ⟨_, rfl, _, _, _, _, _, rfl, .ty _, .base (.int i), kt (r := true) (by decide +kernel), _, rfl, iteT ?_⟩
      refine ⟨_, rfl, _, _, _, _, _, rfl, .ty _, .base (.int i), kt (r := false) (by decide +kernel), _, rfl, _, rfl, iteT ?_⟩
      refine ⟨_, rfl, _, rfl, rfl, ?_⟩
      show Q (.bl (decide (V.int i = V.int i))) H
      rw [decide_eq_true rfl]
      exact k _ (Same.refl _)
    | str i =>
      obtain rfl := dp_str hx
      obtain rfl := dp_str hy
      refine ⟨_, rfl, rfl, _, rfl, iteF ?_⟩
      refine ⟨_, rfl, _, _, _, _, _, rfl, .ty _, .base (.str i), kt (r := false) (by decide +kernel), _, rfl, iteF ?_⟩
      refine ⟨_, rfl, _, _, _, _, _, rfl, .ty _, .base (.str i), kt (r := false) (by decide +kernel), _, rfl, iteF ?_⟩
      refine ⟨_, rfl, _, _, _, _, _, rfl, .ty _, .base (.str i), kt (r := true) (by decide +kernel), _, rfl, iteT ?_⟩
      refine ⟨_, rfl, _, _, _, _, _, rfl, .ty _, .base (.str i), kt (r := true) (by decide +kernel), _, rfl, iteT ?_⟩
      refine ⟨_, rfl, _, rfl, rfl, ?_⟩
      show Q (.bl (decide (V.str i = V.str i))) H
      rw [decide_eq_true rfl]
      exact k _ (Same.refl _)
    | dict kvs => cases hx
    | list ds =>
      obtain ⟨a, xs, rfl, ha, hxs⟩ := dp_lst hx
      obtain ⟨b, ys, rfl, hb, hys⟩ := dp_lst hy
      cases n with
      | zero => exact hf.elim
      | succ n =>
      obtain ⟨hl, hin⟩ := hf
      refine ⟨_, rfl, rfl, _, rfl, iteF ?_⟩
      refine ⟨_, rfl, _, _, _, _, _, rfl, .ty _, tyx_l hb, kt (r := false) (by decide +kernel), _, rfl, iteF ?_⟩
      refine ⟨_, rfl, _, _, _, _, _, rfl, .ty _, tyx_l hb, kt (r := false) (by decide +kernel), _, rfl, iteF ?_⟩
      refine ⟨_, rfl, _, _, _, _, _, rfl, .ty _, tyx_l hb, kt (r := false) (by decide +kernel), _, rfl, iteF ?_⟩
      refine ⟨_, rfl, _, _, _, _, _, rfl, .ty _, tyx_l hb, kt (r := false) (by decide +kernel), _, rfl, _, _, _, _, _, rfl, .ty _, tyx_l ha, kt (r := false) (by decide +kernel), rfl, _, rfl, iteF ?_⟩
      refine ⟨_, rfl, _, _, _, _, _, rfl, .ty _, tyx_l hb, kt (r := true) (by decide +kernel), _, rfl, _, _, _, _, _, rfl, .ty _, tyx_l ha, kt (r := true) (by decide +kernel), rfl, _, rfl, iteF ?_⟩
      have lx := hxs.len
      have ly := hys.len
      refine ⟨_, rfl, a, _, rfl, .inl ha, _, rfl, b, _, rfl, .inl hb, rfl, _, rfl, ?_⟩
      rw [lx, ly]
      refine iteNS rfl ?_
      refine ⟨_, rfl, b, ys, rfl, .inl hb, _, rfl, by omega, by omega, fun D hD => ?_⟩
      rw [ly]
      refine lc_it (walk_range (lo := 0) (n := ds.length)) (fun i G => Same H G ∧ H D = none ∧ G D = some (.lst (List.replicate i (.bl true)))) ⟨same_new hD, hD, upd_same⟩ (fun _ _ _ _ => trivial) ?_ ?_
      · rintro i x G G' hi ⟨s1, hD, g1⟩ ⟨rfl, rfl⟩
        obtain ⟨d, hd⟩ : ∃ d, ds[i]? = some d := ⟨ds[i], by simp [hi]⟩
        obtain ⟨vx, hvx, dx⟩ := hxs.at hd
        obtain ⟨vy, hvy, dy⟩ := hys.at hd
        refine ⟨rfl, _, rfl, _, rfl, .inl ⟨a, xs, _, vx, rfl, rfl, s1.seq ha, by rw [Int.zero_add]; exact atI_nat hvx, ?_⟩⟩
        refine ⟨_, rfl, _, rfl, .inl ⟨b, ys, _, vy, rfl, rfl, s1.seq hb, by rw [Int.zero_add]; exact atI_nat hvy, ?_⟩⟩
        refine ⟨vx, vy, d, rfl, dx.same s1, dy.same s1, hin d (List.mem_of_getElem? hd), fun H' s' => ?_⟩
        refine ⟨_, s' _ _ g1, ?_, same_mut (s1.trans s') hD, hD, ?_⟩
        · rw [List.length_replicate]
          exact szl (by omega)
        · rw [upd_same, List.replicate_succ']
      · rintro G ⟨s1, hD, g1⟩
        refine ⟨D, List.replicate ds.length true, rfl, SqL.of (by rw [g1]; simp), ?_⟩
        have e : (List.replicate ds.length true).all id = true := by simp
        rw [e]
        exact k _ s1
    | tuple ds =>
      obtain ⟨a, xs, rfl, ha, hxs⟩ := dp_tup hx
      obtain ⟨b, ys, rfl, hb, hys⟩ := dp_tup hy
      cases n with
      | zero => exact hf.elim
      | succ n =>
      obtain ⟨hl, hin⟩ := hf
      refine ⟨_, rfl, rfl, _, rfl, iteF ?_⟩
      refine ⟨_, rfl, _, _, _, _, _, rfl, .ty _, tyx_t hb, kt (r := false) (by decide +kernel), _, rfl, iteF ?_⟩
      refine ⟨_, rfl, _, _, _, _, _, rfl, .ty _, tyx_t hb, kt (r := false) (by decide +kernel), _, rfl, iteF ?_⟩
      refine ⟨_, rfl, _, _, _, _, _, rfl, .ty _, tyx_t hb, kt (r := false) (by decide +kernel), _, rfl, iteF ?_⟩
      refine ⟨_, rfl, _, _, _, _, _, rfl, .ty _, tyx_t hb, kt (r := true) (by decide +kernel), _, rfl, _, _, _, _, _, rfl, .ty _, tyx_t ha, kt (r := true) (by decide +kernel), rfl, _, rfl, iteF ?_⟩
      refine ⟨_, rfl, _, _, _, _, _, rfl, .ty _, tyx_t hb, kt (r := false) (by decide +kernel), _, rfl, _, _, _, _, _, rfl, .ty _, tyx_t ha, kt (r := false) (by decide +kernel), rfl, _, rfl, iteF ?_⟩
      have lx := hxs.len
      have ly := hys.len
      refine ⟨_, rfl, a, _, rfl, .inr ha, _, rfl, b, _, rfl, .inr hb, rfl, _, rfl, ?_⟩
      rw [lx, ly]
      refine iteNS rfl ?_
      refine ⟨_, rfl, b, ys, rfl, .inr hb, _, rfl, by omega, by omega, fun D hD => ?_⟩
      rw [ly]
      refine lc_it (walk_range (lo := 0) (n := ds.length)) (fun i G => Same H G ∧ H D = none ∧ G D = some (.lst (List.replicate i (.bl true)))) ⟨same_new hD, hD, upd_same⟩ (fun _ _ _ _ => trivial) ?_ ?_
      · rintro i x G G' hi ⟨s1, hD, g1⟩ ⟨rfl, rfl⟩
        obtain ⟨d, hd⟩ : ∃ d, ds[i]? = some d := ⟨ds[i], by simp [hi]⟩
        obtain ⟨vx, hvx, dx⟩ := hxs.at hd
        obtain ⟨vy, hvy, dy⟩ := hys.at hd
        refine ⟨rfl, _, rfl, _, rfl, .inr (.inl ⟨a, xs, _, vx, rfl, rfl, s1.seqT ha, by rw [Int.zero_add]; exact atI_nat hvx, ?_⟩)⟩
        refine ⟨_, rfl, _, rfl, .inr (.inl ⟨b, ys, _, vy, rfl, rfl, s1.seqT hb, by rw [Int.zero_add]; exact atI_nat hvy, ?_⟩)⟩
        refine ⟨vx, vy, d, rfl, dx.same s1, dy.same s1, hin d (List.mem_of_getElem? hd), fun H' s' => ?_⟩
        refine ⟨_, s' _ _ g1, ?_, same_mut (s1.trans s') hD, hD, ?_⟩
        · rw [List.length_replicate]
          exact szl (by omega)
        · rw [upd_same, List.replicate_succ']
      · rintro G ⟨s1, hD, g1⟩
        refine ⟨D, List.replicate ds.length true, rfl, SqL.of (by rw [g1]; simp), ?_⟩
        have e : (List.replicate ds.length true).all id = true := by simp
        rw [e]
        exact k _ s1
theorem ok_equal {f : Addr} {fd : FuncData} (F : FnP K "_law_equal" "_law_equal" s__law_equal f fd) (T : Tx mg) (gm : mg "_law_equal" = some (.ref f)) (b : Binds K fd ["_law_actual", "_law_expected"] []) :
    ∀ n, C8.Cal P w K mg base (n + 1) "_law_equal" (spEq K n) []
  | 0 => ⟨f, fd, _, _, eq_body (n := 0) F T ⟨f, fd, _, _, ⟨fun _ _ _ _ z => False.elim z, fun _ _ _ _ _ _ _ _ _ _ _ _ _ z => False.elim z⟩, gm, F.kp, b, .nil⟩, gm, F.kp, b, .nil⟩
  | n + 1 => ⟨f, fd, _, _, eq_body (n := n + 1) F T (ok_equal F T gm b n), gm, F.kp, b, .nil⟩
end
end Bk
/-! ### the law's own durations, pace and ends -/
namespace Bk
open PySem PySem.Spec PyProof.Rows L2
def spDursL (K : PySem.W.Frag) : Sp := fun vs H Q _ => ∃ (a : Addr) (ps : List Person), vs = [.ref a] ∧ SqL K H a (ivs (pacesOf ps)) ∧ Valid ps ∧ ∀ H' p, Same H H' → H p = none → H' p = some (.lst (ivs (dursOf ps))) → Q (.ref p) H'
def spPaceLL (K : PySem.W.Frag) : Sp := fun vs H Q _ => ∃ (a : Addr) (ds : List Int), vs = [.ref a] ∧ SqL K H a (ivs ds) ∧ DurB ds ∧ ∀ H', Same H H' → Q (.int (paceL ds)) H'
/-- the ends of the first n buckets, row by row, at p -/
def Tab (H : Hp) (p : Addr) (ds : List Int) (n : Nat) : Prop := ∃ us, H p = some (.lst us) ∧ us.length = n ∧ ∀ i, i < n → ∃ q, us[i]? = some (.ref q) ∧ q ≠ p ∧ H q = some (.lst (ivs (row ds i)))
theorem Tab.same {H H' : Hp} {p : Addr} {ds : List Int} {n : Nat} (h : Tab H p ds n) (s : Same H H') : Tab H' p ds n := by
  obtain ⟨us, h1, h2, h3⟩ := h
  refine ⟨us, s _ _ h1, h2, fun i hi => ?_⟩
  obtain ⟨q, a1, a2, a3⟩ := h3 i hi
  exact ⟨q, a1, a2, s _ _ a3⟩
def tabD (ds : List Int) (n : Nat) : List PyData := ((List.range n).map (row ds)).map pyI
theorem tab_lay (ds : List Int) (n : Nat) : Lay 2 (.list (tabD ds n)) := lay_rows _
theorem Tab.dp {K : PySem.W.Frag} {H : Hp} {p : Addr} {ds : List Int} {n : Nat} (h : Tab H p ds n) : Dp K H (.ref p) (.list (tabD ds n)) := by
  obtain ⟨us, h1, h2, h3⟩ := h
  refine dp_mk_lst h1 (dps_of (by rw [h2]; unfold tabD; simp) fun i v d hv hd => ?_)
  have hi : i < n := by rw [← h2]; exact (List.getElem?_eq_some_iff.mp hv).1
  obtain ⟨q, a1, a2, a3⟩ := h3 i hi
  rw [a1] at hv
  cases hv
  unfold tabD at hd
  rw [List.getElem?_map, List.getElem?_map, List.getElem?_range hi] at hd
  cases hd
  exact dp_mk_lst a3 (dps_ints _)
/-- but for an object that is no part of it -/
theorem Tab.upd {H : Hp} {p e : Addr} {ds : List Int} {n : Nat} {o : HO} (h : Tab H p ds n) (he : e ≠ p) (hn : ∀ i, i < n → ∀ us q, H p = some (.lst us) → us[i]? = some (.ref q) → e ≠ q) : Tab (upd H e o) p ds n := by
  obtain ⟨us, h1, h2, h3⟩ := h
  refine ⟨us, by rw [upd_ne (Ne.symm he)]; exact h1, h2, fun i hi => ?_⟩
  obtain ⟨q, a1, a2, a3⟩ := h3 i hi
  exact ⟨q, a1, a2, by rw [upd_ne (Ne.symm (hn i hi us q h1 a1))]; exact a3⟩
def spEndsL (K : PySem.W.Frag) : Sp := fun vs H Q _ => ∃ (a d : Addr) (n : Nat) (ds : List Int), vs = [.ref a] ∧ SqL K H a (List.replicate n (.ref d)) ∧ SqL K H d (ivs ds) ∧ n ≤ 1000 ∧ DurB ds ∧ ∀ H' p, Same H H' → H p = none → Tab H' p ds n → Q (.ref p) H'
section
variable {P : Program} {w : World} {K : PySem.W.Frag} {mg : Str → Option Value} {base : Heap} {C CC CF : Addr}
abbrev s__law_durations : Stmt := top 42
theorem sc__law_durations : FnScope ["_law_paces", "_law_k"] ["_law_paces"] (defScope s__law_durations) := ⟨rfl, rfl, rfl, by decide +kernel, rfl, by decide +kernel, by decide +kernel⟩

theorem ok_dursL {f : Addr} {fd : FuncData} (F : FnP K "_law_durations" "_law_durations" s__law_durations f fd) (T : Tx mg) : FnOk P w K mg base CX0 1 f fd ["_law_paces"] (spDursL K) := by
  refine F.ok sc__law_durations (fun vs H Q E h => ?_) (fun cdv A outer s H vs Q E hr h => ?_)
  · obtain ⟨_, _, rfl, _⟩ := h
    rfl
  · obtain ⟨a, ps, rfl, hS, hV, k⟩ := h
    have lo := hV.lo
    have hi := hV.hi
    refine ⟨_, PSs.nox 
      (pss_one (ps_ret (pe_lc (own := [("_law_k", 1)]) rfl sc__law_durations.nd (pi_range1 rfl T.f_range (pa_cons (pe_op op_sub (pe_callB (c_len K) (by rfl) T.f_len PySem.boot_len (pa_cons (pv 0) pa_nil)) pe_int) pa_nil)) (blkOk_by (own := [("_law_k", 1)]) (N := ["_law_paces", "_law_k"]) (sc := defScope s__law_durations) (by decide +kernel)) (fun _ _ _ _ _ => (pg_name (i := 1) sc__law_durations.nd rfl (Or.inl rfl))) (fun _ _ _ _ _ => pts_nil) (fun _ _ _ _ _ => (pe_callB (c_max K rfl) (by rfl) T.f_max (by decide +kernel) (pa_cons (pe_lst (pa_cons (pe_ix (ixL K) (pv 0) (pv 1) (fun _ _ => rfl)) (pa_cons (pe_ix (ixL K) (pv 0) (pe_op op_add (pv 1) pe_int) (fun _ _ => rfl)) pa_nil))) pa_nil)))))), ?_⟩
    refine ⟨_, rfl, a, _, rfl, .inl hS, _, _, rfl, rfl, (ps.length : Int) - 1, ?_, by omega, by omega, fun D hD => ?_⟩
    · rw [ivs_len, pacesOf_len]
    refine lc_it (walk_range0 (n := ((ps.length : Int) - 1).toNat)) (fun i G => ∃ G0, Same H G0 ∧ G0 D = none ∧ G = upd G0 D (.lst (ivs ((dursOf ps).take i)))) ⟨H, Same.refl _, hD, rfl⟩ (fun _ _ _ _ => trivial) ?_ ?_
    · rintro i x G G' hi ⟨G0, s0, hG, rfl⟩ ⟨rfl, rfl⟩
      have hi1 : i + 1 < (pacesOf ps).length := by rw [pacesOf_len]; omega
      have s1 : Same G0 (upd G0 D (.lst (ivs ((dursOf ps).take i)))) := same_new hG
      have hS1 := Same.seq (s0.trans s1) hS
      obtain ⟨x1, hx1⟩ : ∃ x, (pacesOf ps)[i]? = some x := ⟨_, List.getElem?_eq_getElem (by omega)⟩
      obtain ⟨x2, hx2⟩ : ∃ x, (pacesOf ps)[i + 1]? = some x := ⟨_, List.getElem?_eq_getElem hi1⟩
      refine ⟨rfl, _, rfl, _, rfl, a, _, _, _, rfl, rfl, hS1, atI_nat (ivs_at hx1), _, rfl, _, rfl, _, _, rfl, rfl, a, _, _, .int x2, rfl, rfl, hS1, ?_, (by show 2 ≤ sizeLine; decide), fun l hl => ?_⟩
      · show atI _ (((i : Nat) : Int) + 1) = _
        rw [show ((i : Nat) : Int) + 1 = ((i + 1 : Nat) : Int) by omega]
        exact atI_nat (ivs_at hx2)
      · have hlD : l ≠ D := fun z => by rw [z, upd_same] at hl; cases hl
        refine ⟨l, [x1, x2], rfl, SqL.of upd_same, (by show 0 < 2; decide), fun m hm hy => ?_⟩
        rw [two_max hm hy]
        refine ⟨_, by rw [upd_ne (Ne.symm hlD)]; exact upd_same, ?_, upd G0 l (.lst (ivs [x1, x2])), s0.trans (same_new ?_), by rw [upd_ne (Ne.symm hlD)]; exact hG, ?_⟩
        · rw [ivs_len]
          exact szl (Nat.lt_of_le_of_lt (List.length_take_le _ _) (by omega))
        · rw [upd_ne hlD] at hl
          exact hl
        · rw [upd_swap hlD, List.take_add_one, dursOf_get hx1 hx2, ivs_app]
          rfl
    · rintro G ⟨G0, s0, hG, rfl⟩
      rw [List.take_of_length_le (by rw [dursOf_len]; omega)]
      exact k _ D (s0.trans (same_new hG)) hD upd_same
abbrev s__law_pace : Stmt := top 43
theorem sc__law_pace : FnScope ["_law_durations_here", "_law_k"] ["_law_durations_here"] (defScope s__law_pace) := ⟨rfl, rfl, rfl, by decide +kernel, rfl, by decide +kernel, by decide +kernel⟩

theorem ok_paceL {f : Addr} {fd : FuncData} (F : FnP K "_law_pace" "_law_pace" s__law_pace f fd) (T : Tx mg) : FnOk P w K mg base CX0 1 f fd ["_law_durations_here"] (spPaceLL K) := by
  refine F.ok sc__law_pace (fun vs H Q E h => ?_) (fun cdv A outer s H vs Q E hr h => ?_)
  · obtain ⟨_, _, rfl, _⟩ := h
    rfl
  · obtain ⟨a, ds, rfl, hS, DB, k⟩ := h
    have lo := DB.ne
    have hi := DB.few
    refine ⟨_, PSs.nox 
      (pss_one (ps_ret (pe_callB (c_max K rfl) (by rfl) T.f_max (by decide +kernel) (pa_cons (pe_op op_cat (pe_lst (pa_cons (pe_ix (ixL K) (pv 0) pe_int (fun _ _ => rfl)) pa_nil)) (pe_lc (own := [("_law_k", 1)]) rfl sc__law_pace.nd (pi_range1 rfl T.f_range (pa_cons (pe_op op_sub (pe_callB (c_len K) (by rfl) T.f_len PySem.boot_len (pa_cons (pv 0) pa_nil)) pe_int) pa_nil)) (blkOk_by (own := [("_law_k", 1)]) (N := ["_law_durations_here", "_law_k"]) (sc := defScope s__law_pace) (by decide +kernel)) (fun _ _ _ _ _ => (pg_name (i := 1) sc__law_pace.nd rfl (Or.inl rfl))) (fun _ _ _ _ _ => pts_nil) (fun _ _ _ _ _ => (pe_op op_add (pe_ix (ixL K) (pv 0) (pv 1) (fun _ _ => rfl)) (pe_ix (ixL K) (pv 0) (pe_op op_add (pv 1) pe_int) (fun _ _ => rfl)))))) pa_nil)))), ?_⟩
    refine ⟨_, rfl, a, _, _, .int (dd ds 0), rfl, rfl, hS, atI_nat (j := 0) (ivs_at (dd_get (by omega))), (by show 1 ≤ sizeLine; decide), fun l hl => ?_⟩
    have s1 : Same H (upd H l (.lst [.int (dd ds 0)])) := same_new hl
    have h1 : upd H l (.lst [.int (dd ds 0)]) l = some (.lst (ivs [dd ds 0])) := upd_same
    generalize upd H l (.lst [.int (dd ds 0)]) = H1 at *
    refine ⟨_, rfl, a, _, rfl, .inl (Same.seq s1 hS), _, _, rfl, rfl, (ds.length : Int) - 1, ?_, by omega, by omega, fun D hD => ?_⟩
    · rw [ivs_len]
    have hlD : l ≠ D := ne_of_none h1 hD
    refine lc_it (walk_range0 (n := ((ds.length : Int) - 1).toNat)) (fun i G => G = upd H1 D (.lst (ivs ((sums ds).take i)))) rfl (fun _ _ _ _ => trivial) ?_ ?_
    · rintro i x G G' hi rfl ⟨rfl, rfl⟩
      have hS1 := Same.seq (s1.trans (same_new (o := .lst (ivs ((sums ds).take i))) hD)) hS
      refine ⟨rfl, _, rfl, _, rfl, a, _, _, .int (dd ds i), rfl, rfl, hS1, atI_nat (ivs_at (dd_get (by omega))), _, rfl, _, rfl, _, _, rfl, rfl, a, _, _, .int (dd ds (i + 1)), rfl, rfl, hS1, ?_, _, _, rfl, rfl, _, upd_same, ?_, ?_⟩
      · show atI _ (((i : Nat) : Int) + 1) = _
        rw [show ((i : Nat) : Int) + 1 = ((i + 1 : Nat) : Int) by omega]
        exact atI_nat (ivs_at (dd_get (by omega)))
      · rw [ivs_len]
        exact szl (Nat.lt_of_le_of_lt (List.length_take_le _ _) (by omega))
      · rw [upd_upd, List.take_add_one, sums_get (by omega), ivs_app]
        rfl
    · rintro G rfl
      rw [List.take_of_length_le (by rw [sums_len]; omega)]
      refine ⟨l, D, _, _, rfl, rfl, same_new hD _ _ h1, upd_same, sz (by rw [ivs_len, ivs_len, sums_len]; show 1 + _ ≤ _; omega), fun r hr => ?_⟩
      refine ⟨r, dd ds 0 :: sums ds, rfl, SqL.of upd_same, Nat.succ_pos _, fun m hm hy => ?_⟩
      have em : m = paceL ds := by
        have d0 := DB.dd_pos (k := 0) (by omega)
        by_cases h1' : ds.length = 1
        · have e0 : sums ds = [] := List.eq_nil_of_length_eq_zero (by rw [sums_len]; omega)
          rw [e0] at hm
          unfold paceL
          rw [if_pos h1']
          exact List.mem_singleton.mp hm
        · have hp := pace_ge (ds := ds) (by omega) (k := 0) (by omega)
          have d1 := DB.dd_pos (k := 1) (by omega)
          obtain ⟨j, hj, ej⟩ := pace_at (ds := ds) (by omega)
          have h2 : paceL ds ≤ m := hy _ (List.mem_cons_of_mem _ (by rw [ej]; exact List.mem_of_getElem? (sums_get hj)))
          refine Int.le_antisymm ?_ h2
          rcases List.mem_cons.mp hm with e | e
          · rw [Nat.zero_add] at hp
            omega
          · obtain ⟨i, hi', e'⟩ := sums_mem e
            have := pace_ge (ds := ds) (by omega) hi'
            omega
      rw [em]
      exact k _ ((s1.trans (same_new hD)).trans (same_new hr))
abbrev s__law_ends : Stmt := top 45
theorem sc__law_ends : FnScope ["_law_rows", "_law_found", "_law_row", "_law_ends_here", "_law_k", "_law_begin"] ["_law_rows"] (defScope s__law_ends) := ⟨rfl, rfl, rfl, by decide +kernel, rfl, by decide +kernel, by decide +kernel⟩

theorem ok_endsL {f : Addr} {fd : FuncData} (F : FnP K "_law_ends" "_law_ends" s__law_ends f fd) (T : Tx mg) : FnOk P w K mg base CX0 1 f fd ["_law_rows"] (spEndsL K) := by
  refine F.ok sc__law_ends (fun vs H Q E h => ?_) (fun cdv A outer s H vs Q E hr h => ?_)
  · obtain ⟨_, _, _, _, rfl, _⟩ := h
    rfl
  · obtain ⟨a, d, n, ds, rfl, hS, hd, hn, DB, k⟩ := h
    have lo := DB.ne
    have few := DB.few
    refine ⟨_, PSs.nox 
      (pss_cons (ps_set (i := 1) sc__law_ends.nd rfl (.inl rfl) (pe_lst pa_nil))
      (pss_cons (ps_for PassesOwn.never rfl (iL K (pv 0)) (pg_name (i := 2) sc__law_ends.nd rfl (Or.inl rfl)) 
        (pss_cons (ps_set (i := 3) sc__law_ends.nd rfl (.inl rfl) (pe_lst pa_nil))
        (pss_cons (ps_for PassesOwn.never rfl (pi_range1 rfl T.f_range (pa_cons (pe_callB (c_len K) (by rfl) T.f_len PySem.boot_len (pa_cons (pv 2) pa_nil)) pa_nil)) (pg_name (i := 4) sc__law_ends.nd rfl (Or.inl rfl)) 
          (pss_cons (ps_set (i := 5) sc__law_ends.nd rfl (.inl rfl) (pe_ifExp (pt_cmpR (o_eqD K hr.units) (pv 3) (pe_lst pa_nil) (nomark _)) pe_int (pe_ix (ixL K) (pv 3) (pe_un un_neg pe_int) (fun _ _ => rfl))))
          (pss_cons (ps_if (pt_cmpR (o_neD K hr.units) (pv 1) (pe_lst pa_nil) (nomark _)) 
            (pss_one (ps_set (i := 5) sc__law_ends.nd rfl (.inl rfl) (pe_callB (c_max K rfl) (by rfl) T.f_max (by decide +kernel) (pa_cons (pe_lst (pa_cons (pv 5) (pa_cons (pe_ix (ixL K) (pe_ix (ixL K) (pv 1) (pe_un un_neg pe_int) (fun _ _ => rfl)) (pe_callB (c_min K rfl) (by rfl) T.f_min (by decide +kernel) (pa_cons (pe_lst (pa_cons (pe_op op_add (pv 4) pe_int) (pa_cons (pe_op op_sub (pe_callB (c_len K) (by rfl) T.f_len PySem.boot_len (pa_cons (pv 2) pa_nil)) pe_int) pa_nil))) pa_nil)) (fun _ _ => rfl)) pa_nil))) pa_nil)))) pss_nil)
          (pss_one (ps_expr (e_bm K PySem.F.plainAttrs_list PySem.F.slot_list_append PySem.F.type_list_append mt_append (pv 3) (pa_cons (pe_op op_add (pv 5) (pe_ix (ixL K) (pv 2) (pv 4) (fun _ _ => rfl))) pa_nil)))))))
        (pss_one (ps_expr (e_bm K PySem.F.plainAttrs_list PySem.F.slot_list_append PySem.F.type_list_append mt_append (pv 1) (pa_cons (pv 3) pa_nil)))))))
      (pss_one (ps_ret (pv 1))))), ?_⟩
    refine ⟨Nat.zero_le _, fun fl hfl => ?_⟩
    have s1 : Same H (upd H fl (.lst [])) := same_new hfl
    refine ⟨_, rfl, a, rfl, ⟨_, Same.seq s1 hS⟩, for_it (walk_list (K := K) (a := a) (xs := List.replicate n (.ref d))) (fun i σ H' => ∃ v2 v3 v4 v5, σ = [some (.ref a), some (.ref fl), v2, v3, v4, v5] ∧ Same H H' ∧ Tab H' fl ds i) ⟨none, none, none, none, rfl, s1, [], upd_same, rfl, fun j hj => absurd hj (by omega)⟩ ?_ ?_ ?_⟩
    · rintro i σ H' _ ⟨_, _, _, _, _, s2, _⟩
      exact Same.seq s2 hS
    · rintro i x σ H' H2 hi ⟨v2, v3, v4, v5, rfl, s2, tab⟩ ⟨rfl, hx⟩
      rw [List.length_replicate] at hi
      have ex : x = .ref d := by
        rw [List.getElem?_replicate, if_pos hi] at hx
        exact (Option.some.inj hx).symm
      subst ex
      refine ⟨Nat.zero_le _, fun el hel => ?_⟩
      have hef : el ≠ fl := fun z => by
        obtain ⟨us, u1, _⟩ := tab
        rw [z, u1] at hel
        cases hel
      have s3 : Same H2 (upd H2 el (.lst [])) := same_new hel
      have s13 := s2.trans s3
      have h3e : upd H2 el (.lst []) el = some (.lst (ivs (rowTo ds i 0))) := upd_same
      generalize upd H2 el (.lst []) = H3 at *
      have hd3 := Same.seq s13 hd
      refine ⟨_, rfl, d, _, rfl, .inl hd3, (ds.length : Int), by rw [ivs_len], by omega, by omega, ?_⟩
      refine for_it (walk_range0 (n := ((ds.length : Int)).toNat)) (fun j σ H' => ∃ v4 v5, σ = [some (.ref a), some (.ref fl), some (.ref d), some (.ref el), v4, v5] ∧ Same H2 H' ∧ H' el = some (.lst (ivs (rowTo ds i j)))) ⟨v4, v5, rfl, s3, h3e⟩ (fun _ _ _ _ _ => trivial) ?_ ?_
      · rintro j x σ H' H4 hj ⟨v4', v5', rfl, s4, h4e⟩ ⟨rfl, rfl⟩
        have hjl : j < ds.length := by omega
        have s24 := s2.trans s4
        refine ⟨_, rfl, Nat.zero_le _, fun e he => ?_⟩
        have s5 : Same H4 (upd H4 e (.lst [])) := same_new he
        refine ⟨_, _, dp_mk_lst (s5 _ _ h4e) (dps_ints _), dp_mk_lst upd_same .nil, shaped_ints _, by decide +kernel, _, rfl, ?_⟩
        rw [eqv_nilI]
        have h5e := s5 _ _ h4e
        have s25 := s4.trans s5
        generalize upd H4 e (.lst []) = H5 at *
        -- the row's next end, given what the person ahead ended
        have fin2 : ∀ (H6 : Hp) (z : Int), Same H2 H6 → H6 el = some (.lst (ivs (rowTo ds i j))) → z + dd ds j = En ds i j → tDrop (tBM K "list" rAppend (tVar 3) (tCons (tOp (rI0 fun i j => V.int (i + j)) (tVar 5) (tOp (rIxL K) (tVar 2) (tVar 4))) tNil))
            { nx := fun σ H' => ∃ v4 v5, σ = [some (.ref a), some (.ref fl), some (.ref d), some (.ref el), v4, v5] ∧ Same H2 H' ∧ H' el = some (.lst (ivs (rowTo ds i (j + 1)))), rt := Q }
            [some (.ref a), some (.ref fl), some (.ref d), some (.ref el), some (.int (j : Nat)), some (.int z)] H6 := by
          intro H6 z s6 h6e hz
          refine ⟨_, rfl, .inl ⟨rfl, _, SqL.of h6e⟩, _, rfl, _, rfl, _, rfl, d, _, _, _, rfl, rfl, Same.seq (s2.trans s6) hd, atI_nat (ivs_at (dd_get hjl)), _, _, rfl, rfl, el, _, _, rfl, rfl, h6e, szl (by rw [ivs_len, rowTo_len]; omega), _, _, rfl, same_mut s6 hel, ?_⟩
          rw [upd_same, rowTo_s, ivs_app, ← hz]
          rfl
        have fin : ∀ (z : Int), (z = if j = 0 then 0 else En ds i (j - 1)) → tIfS (tTest (tOp (rNeD K) (tVar 1) (tLst tNil))) (tAsg (tCB (rMax K) (tCons (tLst (tCons (tVar 5) (tCons (tOp (rIxL K) (tOp (rIxL K) (tVar 1) (tUn (rU fun i => V.int (-i)) (tC (V.int 1)))) (tCB (rMin K) (tCons (tLst (tCons (tOp (rI0 fun i j => V.int (i + j)) (tVar 4) (tC (V.int 1))) (tCons (tOp (rI0 fun i j => V.int (i - j)) (tCB (rLenQ K) (tCons (tVar 2) tNil)) (tC (V.int 1))) tNil))) tNil))) tNil))) tNil)) (gName 5)) tNext
            { nx := (tDrop (tBM K "list" rAppend (tVar 3) (tCons (tOp (rI0 fun i j => V.int (i + j)) (tVar 5) (tOp (rIxL K) (tVar 2) (tVar 4))) tNil)) { nx := fun σ H' => ∃ v4 v5, σ = [some (.ref a), some (.ref fl), some (.ref d), some (.ref el), v4, v5] ∧ Same H2 H' ∧ H' el = some (.lst (ivs (rowTo ds i (j + 1)))), rt := Q }), rt := Q }
            [some (.ref a), some (.ref fl), some (.ref d), some (.ref el), some (.int (j : Nat)), some (.int z)] H5 := by
          intro z hz
          refine ⟨_, rfl, Nat.zero_le _, fun e2 he2 => ?_⟩
          have s6 : Same H5 (upd H5 e2 (.lst [])) := same_new he2
          have s26 := s25.trans s6
          have tab6 := tab.same s26
          have h6e := s6 _ _ h5e
          refine ⟨_, _, tab6.dp, dp_mk_lst upd_same .nil, lay_sh (by decide) (tab_lay ds i), by decide +kernel, _, rfl, ?_⟩
          rw [eqv_nil]
          generalize upd H5 e2 (.lst []) = H6 at *
          cases i with
          | zero =>
            refine iteF ?_
            refine fin2 H6 z s26 h6e ?_
            rw [hz]
            cases j with
            | zero => rw [if_pos rfl, En00]; omega
            | succ j => rw [if_neg (by omega), En0s]; rfl
          | succ b =>
            have e3 : (tabD ds (b + 1)).isEmpty = false := by unfold tabD; rw [List.range_succ]; simp
            rw [e3]
            refine iteT ?_
            obtain ⟨us, u1, u2, u3⟩ := id tab6
            obtain ⟨q, q1, q2, q3⟩ := u3 b (by omega)
            have hat : atI us (-1) = some (.ref q) := by
              unfold atI ixN
              rw [if_neg (by omega), if_pos (by omega)]
              show us[(-1 + ((us.length : Nat) : Int)).toNat]? = _
              rw [show (-1 + ((us.length : Nat) : Int)).toNat = b by omega]
              exact q1
            refine ⟨_, rfl, _, rfl, _, rfl, fl, us, _, _, rfl, rfl, SqL.of u1, hat, ?_⟩
            refine ⟨_, rfl, _, _, rfl, rfl, _, rfl, d, _, rfl, .inl (Same.seq (s2.trans s26) hd), _, _, rfl, rfl, (by show 2 ≤ sizeLine; decide), fun l hl => ?_⟩
            have s7 := same_new (o := .lst [.int (((j : Nat) : Int) + 1), .int (((ivs ds).length : Nat) - 1)]) hl
            have h7l : upd H6 l (.lst [.int (((j : Nat) : Int) + 1), .int (((ivs ds).length : Nat) - 1)]) l = some (.lst (ivs [((j : Nat) : Int) + 1, ((ivs ds).length : Nat) - 1])) := upd_same
            refine ⟨l, [((j : Nat) : Int) + 1, ((ivs ds).length : Nat) - 1], rfl, SqL.of h7l, (by show 0 < 2; decide), fun m hm hy => ?_⟩
            have em : m = ((min (j + 1) (ds.length - 1) : Nat) : Int) := by
              rw [two_min hm hy, ivs_len]
              split <;> omega
            subst em
            generalize upd H6 l (.lst [.int (((j : Nat) : Int) + 1), .int (((ivs ds).length : Nat) - 1)]) = H7 at *
            refine ⟨q, _, _, .int (En ds b (min (j + 1) (ds.length - 1))), rfl, rfl, SqL.of (s7 _ _ q3), atI_nat (ivs_at (row_get (by omega))), (by show 2 ≤ sizeLine; decide), fun l2 hl2 => ?_⟩
            have s8 := same_new (o := .lst [.int z, .int (En ds b (min (j + 1) (ds.length - 1)))]) hl2
            refine ⟨l2, [z, En ds b (min (j + 1) (ds.length - 1))], rfl, SqL.of upd_same, (by show 0 < 2; decide), fun m hm hy => ?_⟩
            refine fin2 _ m ((s26.trans s7).trans s8) (s8 _ _ (s7 _ _ h6e)) ?_
            rw [two_max hm hy]
            cases j with
            | zero =>
              have hz' : z = 0 := hz
              rw [Ens0, hz', Nat.zero_add]
              have := En_nn DB.toDur b (min 1 (ds.length - 1)) (by omega)
              split <;> omega
            | succ j =>
              have hz' : z = En ds (b + 1) j := by rw [hz, if_neg (by omega)]; rfl
              rw [Enss, hz', show min (j + 2) (ds.length - 1) = min (j + 1 + 1) (ds.length - 1) from rfl]
              split <;> omega
        cases j with
        | zero =>
          refine iteT ?_
          exact fin 0 rfl
        | succ j =>
          have e1 : (rowTo ds i (j + 1)).isEmpty = false := by rw [rowTo_s]; simp
          rw [e1]
          refine iteF ⟨_, rfl, _, rfl, el, _, _, .int (En ds i j), rfl, rfl, SqL.of h5e, ?_, ?_⟩
          · rw [rowTo_s, ivs_app]
            exact at_last
          · exact fin _ rfl
      · rintro σ H' ⟨v4', v5', rfl, s4, h4e⟩
        have h4e' : H' el = some (.lst (ivs (row ds i))) := h4e
        have tab4 := tab.same s4
        obtain ⟨us, u1, u2, u3⟩ := id tab4
        refine ⟨_, rfl, .inl ⟨rfl, _, SqL.of u1⟩, _, rfl, fl, us, _, rfl, rfl, u1, szl (by omega), _, _, _, _, rfl, same_mut (s2.trans s4) hfl, _, upd_same, by rw [List.length_append, u2]; rfl, fun j hj => ?_⟩
        by_cases hji : j < i
        · obtain ⟨q, q1, q2, q3⟩ := u3 j hji
          exact ⟨q, by rw [List.getElem?_append_left (by omega)]; exact q1, q2, by rw [upd_ne q2]; exact q3⟩
        · have : j = i := by omega
          subst this
          exact ⟨el, by rw [List.getElem?_append_right (by omega), u2]; simp, hef, by rw [upd_ne hef]; exact h4e'⟩
    · rintro σ H' ⟨_, _, _, _, rfl, s2, tab⟩
      rw [List.length_replicate] at tab
      exact ⟨_, rfl, k H' fl s2 hfl tab⟩
end
end Bk
/-! ### all but the source of numbers -/
namespace Bk
open PySem PySem.Spec PyProof.Rows L2
/-- what stands beside d goes on standing -/
def SD (d : Addr) (H H' : Hp) : Prop := Same (delH H d) (delH H' d)
section
variable {d : Addr} {H H' H'' : Hp}
theorem SD.refl : SD d H H := Same.refl _
theorem SD.trans (h : SD d H H') (k : SD d H' H'') : SD d H H'' := Same.trans h k
theorem SD.of (h : Same H H') : SD d H H' := del_mono h
theorem SD.ofd (h : Same (delH H d) H') : SD d H H' := fun b o e => by
  have hb : b ≠ d := fun z => by rw [z, delH_same] at e; cases e
  rw [delH_ne hb]
  exact h b o e
theorem SD.mut {o : HO} : SD d H (upd H d o) := by
  unfold SD
  rw [delH_upd]
  exact Same.refl _
theorem SD.up (h : SD d H H') : Same (delH H d) H' := Same.trans h same_del
theorem SD.at {a : Addr} {o : HO} (h : SD d H H') (e : H a = some o) (n : a ≠ d) : H' a = some o := h.up a o (by rw [delH_ne n]; exact e)
end
theorem sqT_del {K : PySem.W.Frag} {H : Hp} {d a : Addr} {xs ys : List V} (hd : H d = some (.lst ys)) (h : SqT K H a xs) : SqT K (delH H d) a xs := by
  rcases h with (h | ⟨o, h⟩) | h
  · exact .inl (.inl (by rw [delH_ne (ne_of h hd (by intro z; cases z))]; exact h))
  · exact .inl (.inr ⟨o, by rw [delH_ne (ne_of h hd (by intro z; cases z))]; exact h⟩)
  · exact .inr h
theorem people_del {K : PySem.W.Frag} {H : Hp} {d : Addr} {ys : List V} (hd : H d = some (.lst ys)) {xs : List V} {ps : List Person} (h : DpAll K H xs (pyPs ps)) : DpAll K (delH H d) xs (pyPs ps) :=
  dps_of h.len fun i v x hv hx => by
    obtain ⟨x', e1, e2⟩ := h.get hv
    rw [hx] at e1
    cases e1
    obtain ⟨p, _, rfl⟩ := pyPs_get hx
    obtain ⟨a, rfl, hs⟩ := dp_person e2
    exact .tup (sqT_del hd hs) (.cons (.str _) (.cons (.int _) .nil))
theorem line_del {K : PySem.W.Frag} {C : Addr} {H : Hp} {d : Addr} {ys : List V} (hd : H d = some (.lst ys)) {v : V} {ps : List Person} (h : IsLine K C H v ps) : IsLine K C (delH H d) v ps := by
  obtain ⟨a, dx, p, xs, h1, h2, h3, h4⟩ := h
  refine ⟨a, dx, p, xs, h1, ?_, ?_, people_del hd h4⟩
  · rw [delH_ne (ne_of h2 hd (by intro z; cases z))]; exact h2
  · rw [delH_ne (ne_of h3 hd (by intro z; cases z))]; exact h3
theorem isline_upd {K : PySem.W.Frag} {C : Addr} {H H' : Hp} {d : Addr} {v : V} {ps : List Person} (h : IsLine K C (delH H d) v ps) (s : SD d H H') : IsLine K C (delH H' d) v ps := h.same s
end Bk
/-! ### law 33, the law -/
namespace Bk
open PySem PySem.Spec PyProof.Rows L2
/-- the people with paces up to nine -/
def nine (ps : List Person) : List Person := ps.map fun p => (p.1, 1 + p.2 % 9)
theorem nine_valid {ps : List Person} (hV : Valid ps) : Valid (nine ps) := by
  unfold nine
  refine ⟨by rw [List.length_map]; exact hV.lo, by rw [List.length_map]; exact hV.hi, ?_, fun q hq => ?_, fun q hq => ?_⟩
  · rw [List.map_map]
    exact hV.nd
  · obtain ⟨p, hp, rfl⟩ := List.mem_map.mp hq
    exact hV.nm p hp
  · obtain ⟨p, hp, rfl⟩ := List.mem_map.mp hq
    show 1 ≤ 1 + p.2 % 9 ∧ 1 + p.2 % 9 ≤ 1000
    omega
theorem durs_le {ps : List Person} {m : Int} (h : ∀ p ∈ ps, p.2 ≤ m) : ∀ d ∈ dursOf ps, d ≤ m := by
  intro d hd
  obtain ⟨i, hi, e⟩ := List.mem_iff_getElem.mp hd
  have hl := dursOf_len ps
  have hi' := hi
  rw [hl] at hi'
  have h1 : i < (pacesOf ps).length := by rw [pacesOf_len]; omega
  have h2 : i + 1 < (pacesOf ps).length := by rw [pacesOf_len]; omega
  have g := dursOf_get (List.getElem?_eq_getElem h1) (List.getElem?_eq_getElem h2)
  rw [List.getElem?_eq_getElem hi, e] at g
  have g2 := Option.some.inj g
  have k : ∀ j (hj : j < (pacesOf ps).length), (pacesOf ps)[j] ≤ m := fun j hj => by
    have : (pacesOf ps)[j] ∈ pacesOf ps := List.getElem_mem hj
    obtain ⟨p, hp, ep⟩ := List.mem_map.mp this
    rw [← ep]
    exact h p hp
  have a1 := k i h1
  have a2 := k (i + 1) h2
  rw [g2]
  split <;> omega
theorem pace_18 {ps : List Person} (hV : Valid ps) (h : ∀ p ∈ ps, p.2 ≤ 9) : paceL (dursOf ps) ≤ 18 := by
  have D := durB_of hV
  have k := durs_le h
  have kd : ∀ j, dd (dursOf ps) j ≤ 9 := fun j => by
    unfold dd
    rw [List.getD_eq_getElem?_getD]
    cases e : (dursOf ps)[j]? with
    | none => show (0 : Int) ≤ 9; decide
    | some x => exact k x (List.mem_of_getElem? e)
  by_cases h1 : (dursOf ps).length = 1
  · unfold paceL
    rw [if_pos h1]
    have := kd 0
    omega
  · obtain ⟨j, hj, e⟩ := pace_at (ds := dursOf ps) (by have := D.ne; omega)
    rw [e]
    have := kd j
    have := kd (j + 1)
    omega
theorem nine_le (ps : List Person) : ∀ p ∈ nine ps, p.2 ≤ 9 := fun q hq => by
  obtain ⟨p, hp, rfl⟩ := List.mem_map.mp hq
  show 1 + p.2 % 9 ≤ 9
  omega
theorem sum_nn : ∀ {l : List Int}, (∀ x ∈ l, (0 : Int) ≤ x) → 0 ≤ l.sum
  | [], _ => Int.le_refl _
  | x :: l, h => by
    have h1 := h x (by simp)
    have h2 := sum_nn (l := l) fun y hy => h y (by simp [hy])
    rw [List.sum_cons]
    omega
theorem FoundV.same {ds : List Int} {s g w : Int} {H H' : Hp} {v : V} (h : FoundV ds s g w H v) (e : Same H H') : FoundV ds s g w H' v := by
  rcases h with h | ⟨t, b, h1, h2, h3⟩
  · exact .inl h
  · exact .inr ⟨t, b, h1, h2, e _ _ h3⟩
theorem at_end {xs : List V} {n : Nat} {v : V} (hn : xs.length = n + 1) (h : xs[n]? = some v) : atI xs (-1) = some v := by
  unfold atI ixN
  rw [if_neg (by omega), if_pos (by omega)]
  show xs[(-1 + ((xs.length : Nat) : Int)).toNat]? = some v
  rw [show (-1 + ((xs.length : Nat) : Int)).toNat = n by omega]
  exact h
/-- when the first sixty buckets have come -/
def lasts (ds : List Int) : List Int := (List.range 60).map (lastE ds)
theorem lasts_len (ds : List Int) : (lasts ds).length = 60 := by unfold lasts; rw [List.length_map, List.length_range]
theorem lasts_get {ds : List Int} {i : Nat} (h : i < 60) : (lasts ds)[i]? = some (lastE ds i) := by
  unfold lasts
  rw [List.getElem?_map, List.getElem?_range h]
  rfl
def lefts (ds : List Int) (s g w : Int) : List Int := (List.range 60).map (leftB ds s g w)
theorem lefts_len (ds : List Int) (s g w : Int) : (lefts ds s g w).length = 60 := by unfold lefts; rw [List.length_map, List.length_range]
theorem lefts_get {ds : List Int} {s g w : Int} {i : Nat} (h : i < 60) : (lefts ds s g w)[i]? = some (leftB ds s g w i) := by
  unfold lefts
  rw [List.getElem?_map, List.getElem?_range h]
  rfl
/-- what stands while numbers are drawn from the source at d -/
structure W33 (K : PySem.W.Frag) (C : Addr) (H : Hp) (d : Addr) (l : List Int) (D dl la : Addr) (vs : List V) (ps : List Person) : Prop where
  hd : H d = some (.lst (ivs l))
  src : Src l
  hD : delH H d D = some (.lst vs)
  hl : delH H d dl = some (.lst (ivs (dursOf ps)))
  L : IsLine K C (delH H d) (.ref la) ps
  dv : DpAll K (delH H d) vs (pyPs ps)
theorem W33.step {K : PySem.W.Frag} {C : Addr} {H H' : Hp} {d : Addr} {l l' : List Int} {D dl la : Addr} {vs : List V} {ps : List Person} (h : W33 K C H d l D dl la vs ps) (s : SD d H H') (hd : H' d = some (.lst (ivs l'))) (src : Src l') : W33 K C H' d l' D dl la vs ps :=
  ⟨hd, src, s _ _ h.hD, s _ _ h.hl, h.L.same s, h.dv.same s⟩
theorem W33.same {K : PySem.W.Frag} {C : Addr} {H H' : Hp} {d : Addr} {l : List Int} {D dl la : Addr} {vs : List V} {ps : List Person} (h : W33 K C H d l D dl la vs ps) (s : Same H H') : W33 K C H' d l D dl la vs ps := h.step (SD.of s) (s _ _ h.hd) h.src
theorem W33.mut {K : PySem.W.Frag} {C : Addr} {H : Hp} {d : Addr} {l l' : List Int} {D dl la : Addr} {vs : List V} {ps : List Person} (h : W33 K C H d l D dl la vs ps) (src : Src l') : W33 K C (upd H d (.lst (ivs l'))) d l' D dl la vs ps := h.step SD.mut upd_same src
theorem at3 {x y z r : Int} (h0 : 0 ≤ r) (h1 : r < 3) : ∃ t : Int, atI [V.int x, V.int y, V.int z] r = some (.int t) ∧ (t = x ∨ t = y ∨ t = z) := by
  have h : r = 0 ∨ r = 1 ∨ r = 2 := by omega
  rcases h with rfl | rfl | rfl
  · exact ⟨x, rfl, .inl rfl⟩
  · exact ⟨y, rfl, .inr (.inl rfl)⟩
  · exact ⟨z, rfl, .inr (.inr rfl)⟩
theorem at4 {x y z u r : Int} (h0 : 0 ≤ r) (h1 : r < 4) : ∃ t : Int, atI [V.int x, V.int y, V.int z, V.int u] r = some (.int t) ∧ (t = x ∨ t = y ∨ t = z ∨ t = u) := by
  have h : r = 0 ∨ r = 1 ∨ r = 2 ∨ r = 3 := by omega
  rcases h with rfl | rfl | rfl | rfl
  · exact ⟨x, rfl, .inl rfl⟩
  · exact ⟨y, rfl, .inr (.inl rfl)⟩
  · exact ⟨z, rfl, .inr (.inr (.inl rfl))⟩
  · exact ⟨u, rfl, .inr (.inr (.inr rfl))⟩
section
variable {P : Program} {w : World} {K : PySem.W.Frag} {mg : Str → Option Value} {base : Heap} {C CC CF : Addr}
abbrev s_law : Stmt := top 47
theorem sc_law : FnScope ["_law_script", "_law_d", "_law_step", "_law_people_here", "_law_line_here", "_law_durations_here", "_law_pace_here", "_law_grow", "_law_more", "_law_wet", "_law_size", "_law_k", "_law_fire", "_law_found", "_law_ends_here", "_law_tick", "_law_left", "_law_best", "_law_out", "_law_name", "_law_row"] ["_law_script"] (defScope s_law) := ⟨rfl, rfl, rfl, by decide +kernel, rfl, by decide +kernel, by decide +kernel⟩

theorem ok_law {f : Addr} {fd : FuncData} (F : FnP K "law" "law" s_law f fd) (T : Tx mg) (L : LineT K mg C) (cRand : C8.Cal P w K mg base 1 "_law_random" (spRandom K) []) (cBelow : C8.Cal P w K mg base 1 "_law_below" spBelow []) (cPeople : C8.Cal P w K mg base 3 "_law_people" (spPeople K) []) (cLine : C8.Cal P w K mg base 5 "_law_line" (spLawLine K C) [])
    (cDurs : C8.Cal P w K mg base 1 "_law_durations" (spDursL K) []) (cLPace : C8.Cal P w K mg base 1 "_law_pace" (spPaceLL K) []) (cLEnds : C8.Cal P w K mg base 1 "_law_ends" (spEndsL K) []) (mkF : MakK P w K mg base 1 "Fire" CF 1 ["growth", "water"] (spFireB CF)) (mLeft : C8.Met P w K mg base 1 CF "left" (spLeft CF) [])
    (cPut : C8.Cal P w K mg base 5 "put_out" (spPut K C CF) []) (cLarge : C8.Cal P w K mg base 5 "largest_fire" (spLarge K C) []) (cIsOut : C8.Cal P w K mg base 6 "_law_is_out" (spIsOut K C) []) (cEq : C8.Cal P w K mg base 4 "_law_equal" (spEq K 3) []) : FnOk P w K mg base CX0 7 f fd ["_law_script"] (spLaw K) := by
  refine F.ok sc_law (fun vs H Q E h => ?_) (fun cdv A outer s H vs Q E hr h => ?_)
  · obtain ⟨_, _, rfl, _⟩ := h
    rfl
  · obtain ⟨a, ns, rfl, hS, hlen, k⟩ := h
    refine ⟨_, PSs.nox 
      (pss_cons (ps_set (i := 1) sc_law.nd rfl (.inl rfl) (C8.pe_c cRand hr (by decide) rfl (pa_cons (pv 0) (pa_cons pe_int pa_nil))))
      (pss_cons (ps_for PassesOwn.never rfl (pi_range1 rfl T.f_range (pa_cons pe_int pa_nil)) (pg_name (i := 2) sc_law.nd rfl (Or.inl rfl)) 
        (pss_cons (ps_set (i := 3) sc_law.nd rfl (.inl rfl) (C8.pe_c cPeople hr (by decide) rfl (pa_cons (pv 1) (pa_cons (pe_ix (ixL K) (pe_lst (pa_cons pe_int (pa_cons pe_int pa_nil))) (C8.pe_c cBelow hr (by decide) rfl (pa_cons (pv 1) (pa_cons pe_int pa_nil))) (fun _ _ => rfl)) pa_nil))))
        (pss_cons (ps_setLc (i := 3) (own := [("_law_name", 19), ("_law_pace_here", 6)]) rfl sc_law.nd rfl rfl (sw_true rfl rfl rfl (by decide +kernel)) (iL K (pv 3)) (blkOk_by (own := [("_law_name", 19), ("_law_pace_here", 6)]) (N := ["_law_script", "_law_d", "_law_step", "_law_people_here", "_law_line_here", "_law_durations_here", "_law_pace_here", "_law_grow", "_law_more", "_law_wet", "_law_size", "_law_k", "_law_fire", "_law_found", "_law_ends_here", "_law_tick", "_law_left", "_law_best", "_law_out", "_law_name", "_law_row"]) (sc := defScope s_law) (by decide +kernel)) (fun _ _ _ _ _ => (g_tup K 2 rfl (pgs_cons (pg_name (i := 19) sc_law.nd rfl (Or.inl rfl)) (pgs_cons (pg_name (i := 6) sc_law.nd rfl (Or.inl rfl)) pgs_nil)))) (fun _ _ _ _ _ => pts_nil) (fun _ _ _ _ _ => (pe_tup (pa_cons (pv 19) (pa_cons (pe_op op_add pe_int (pe_op op_mod (pv 6) pe_int)) pa_nil)))))
        (pss_cons (ps_par (i := 4) (j := 5) (by rfl) sc_law.nd rfl rfl (by decide) rfl rfl (pa_cons (C8.pe_c cLine hr (by decide) rfl (pa_cons (pv 3) pa_nil)) (pa_cons (C8.pe_c cDurs hr (by decide) rfl (pa_cons (pe_lc (own := [("_law_name", 19), ("_law_pace_here", 6)]) rfl sc_law.nd (iL K (pv 3)) (blkOk_by (own := [("_law_name", 19), ("_law_pace_here", 6)]) (N := ["_law_script", "_law_d", "_law_step", "_law_people_here", "_law_line_here", "_law_durations_here", "_law_pace_here", "_law_grow", "_law_more", "_law_wet", "_law_size", "_law_k", "_law_fire", "_law_found", "_law_ends_here", "_law_tick", "_law_left", "_law_best", "_law_out", "_law_name", "_law_row"]) (sc := defScope s_law) (by decide +kernel)) (fun _ _ _ _ _ => (g_tup K 2 rfl (pgs_cons (pg_name (i := 19) sc_law.nd rfl (Or.inl rfl)) (pgs_cons (pg_name (i := 6) sc_law.nd rfl (Or.inl rfl)) pgs_nil)))) (fun _ _ _ _ _ => pts_nil) (fun _ _ _ _ _ => (pv 6))) pa_nil)) pa_nil)) (by rfl))
        (pss_cons (ps_set (i := 6) sc_law.nd rfl (.inl rfl) (C8.pe_c cLPace hr (by decide) rfl (pa_cons (pv 5) pa_nil)))
        (pss_cons (ps_set (i := 7) sc_law.nd rfl (.inr rfl) (C8.pe_c cBelow hr (by decide) rfl (pa_cons (pv 1) (pa_cons (pe_ix (ixL K) (pe_lst (pa_cons pe_int (pa_cons pe_int (pa_cons (pe_op op_pow pe_int pe_int) pa_nil)))) (C8.pe_c cBelow hr (by decide) rfl (pa_cons (pv 1) (pa_cons pe_int pa_nil))) (fun _ _ => rfl)) pa_nil))))
        (pss_cons (ps_set (i := 8) sc_law.nd rfl (.inl rfl) (pe_ix (ixL K) (pe_lst (pa_cons (pe_op op_sub pe_int (C8.pe_c cBelow hr (by decide) rfl (pa_cons (pv 1) (pa_cons pe_int pa_nil)))) (pa_cons pe_int (pa_cons (pe_op op_add pe_int (C8.pe_c cBelow hr (by decide) rfl (pa_cons (pv 1) (pa_cons pe_int pa_nil)))) (pa_cons (C8.pe_c cBelow hr (by decide) rfl (pa_cons (pv 1) (pa_cons pe_int pa_nil))) pa_nil))))) (C8.pe_c cBelow hr (by decide) rfl (pa_cons (pv 1) (pa_cons pe_int pa_nil))) (fun _ _ => rfl)))
        (pss_cons (ps_set (i := 9) sc_law.nd rfl (.inr rfl) (pe_callB (c_max K rfl) (by rfl) T.f_max (by decide +kernel) (pa_cons (pe_lst (pa_cons pe_int (pa_cons (pe_op op_add (pe_op op_mul (pv 7) (pv 6)) (pv 8)) pa_nil))) pa_nil)))
        (pss_cons (ps_asg (pe_tup (pa_cons (pe_op op_add pe_int (C8.pe_c cBelow hr (by decide) rfl (pa_cons (pv 1) (pa_cons (pe_ix (ixL K) (pe_lst (pa_cons pe_int (pa_cons pe_int (pa_cons (pe_op op_pow pe_int pe_int) pa_nil)))) (C8.pe_c cBelow hr (by decide) rfl (pa_cons (pv 1) (pa_cons pe_int pa_nil))) (fun _ _ => rfl)) pa_nil)))) (pa_cons (C8.pe_c cBelow hr (by decide) rfl (pa_cons (pv 1) (pa_cons pe_int pa_nil))) pa_nil))) (g_tup K 2 rfl (pgs_cons (pg_name (i := 10) sc_law.nd rfl (Or.inr rfl)) (pgs_cons (pg_name (i := 11) sc_law.nd rfl (Or.inl rfl)) pgs_nil))))
        (Evl.pss_cut (ps_if (pt_cmpR op_eq (C8.pe_c cBelow hr (by decide) rfl (pa_cons (pv 1) (pa_cons pe_int pa_nil))) pe_int (nomark _)) 
          (pss_one (ps_set (i := 10) sc_law.nd rfl (.inr rfl) (pe_callB (c_max K rfl) (by rfl) T.f_max (by decide +kernel) (pa_cons (pe_lst (pa_cons pe_int (pa_cons (pe_op op_sub (pe_op op_mul (pv 9) (pe_op op_add (pv 11) pe_int)) (pe_op op_mul (pv 7) (pe_op op_add (pe_callB (c_sum K rfl) (by rfl) T.f_sum (by decide +kernel) (pa_cons (pv 5) pa_nil)) (pe_op op_mul (pv 11) (pv 6))))) pa_nil))) pa_nil)))) pss_nil)
        (pss_cons (ps_asg (pe_tup (pa_cons (e_makeK mkF hr (by decide) rfl (pa_cons (pv 10) pa_nil) (pk_cons (pv 7) (pk_cons (pv 9) pk_nil))) (pa_cons (C8.pe_c cPut hr (by decide) rfl (pa_cons (pv 4) (pa_cons (e_makeK mkF hr (by decide) rfl (pa_cons (pv 10) pa_nil) (pk_cons (pv 7) (pk_cons (pv 9) pk_nil))) pa_nil))) pa_nil))) (g_tup K 2 rfl (pgs_cons (pg_name (i := 12) sc_law.nd rfl (Or.inr rfl)) (pgs_cons (pg_name (i := 13) sc_law.nd rfl (Or.inl rfl)) pgs_nil))))
        (pss_cons (ps_if (pt_cmpR op_ne (pe_cmpR op_isN (pv 13) pe_non (nomark _)) (pe_cmpR op_le (pv 9) (pe_op op_mul (pv 7) (pv 6)) (nomark _)) (nomark _)) 
          (pss_one (ps_ret pe_bl)) pss_nil)
        (pss_cons (ps_if (pt_not (pt_val (C8.pe_c cIsOut hr (by decide) rfl (pa_cons (pv 4) (pa_cons (pe_ix (ixT K) (pe_ix (ixL K) (pv 3) (pe_un un_neg pe_int) (fun _ _ => rfl)) pe_int (fun _ _ => rfl)) (pa_cons (pv 10) (pa_cons (pv 7) (pa_cons (pv 9) pa_nil)))))))) 
          (pss_one (ps_ret pe_bl)) pss_nil)
        (pss_cons (ps_asg (pe_tup (pa_cons (pe_lc (own := [("_law_row", 20)]) rfl sc_law.nd (iL K (C8.pe_c cLEnds hr (by decide) rfl (pa_cons (pe_op op_rep (pe_lst (pa_cons (pv 5) pa_nil)) pe_int) pa_nil))) (blkOk_by (own := [("_law_row", 20)]) (N := ["_law_script", "_law_d", "_law_step", "_law_people_here", "_law_line_here", "_law_durations_here", "_law_pace_here", "_law_grow", "_law_more", "_law_wet", "_law_size", "_law_k", "_law_fire", "_law_found", "_law_ends_here", "_law_tick", "_law_left", "_law_best", "_law_out", "_law_name", "_law_row"]) (sc := defScope s_law) (by decide +kernel)) (fun _ _ _ _ _ => (pg_name (i := 20) sc_law.nd rfl (Or.inl rfl))) (fun _ _ _ _ _ => pts_nil) (fun _ _ _ _ _ => (pe_ix (ixL K) (pv 20) (pe_un un_neg pe_int) (fun _ _ => rfl)))) (pa_cons (C8.pe_c cBelow hr (by decide) rfl (pa_cons (pv 1) (pa_cons pe_int pa_nil))) pa_nil))) (g_tup K 2 rfl (pgs_cons (pg_name (i := 14) sc_law.nd rfl (Or.inr rfl)) (pgs_cons (pg_name (i := 15) sc_law.nd rfl (Or.inr rfl)) pgs_nil))))
        (pss_cons (ps_set (i := 16) sc_law.nd rfl (.inr rfl) (pe_lc (own := [("_law_k", 11)]) rfl sc_law.nd (pi_range1 rfl T.f_range (pa_cons pe_int pa_nil)) (blkOk_by (own := [("_law_k", 11)]) (N := ["_law_script", "_law_d", "_law_step", "_law_people_here", "_law_line_here", "_law_durations_here", "_law_pace_here", "_law_grow", "_law_more", "_law_wet", "_law_size", "_law_k", "_law_fire", "_law_found", "_law_ends_here", "_law_tick", "_law_left", "_law_best", "_law_out", "_law_name", "_law_row"]) (sc := defScope s_law) (by decide +kernel)) (fun _ _ _ _ _ => (pg_name (i := 11) sc_law.nd rfl (Or.inl rfl))) (fun _ _ _ _ _ => pts_nil) (fun _ _ _ _ _ => (C8.pe_mt mLeft hr (by decide) (pv 12) (pa_cons (pv 11) (pa_cons (pe_ix (ixL K) (pv 14) (pv 11) (fun _ _ => rfl)) pa_nil))))))
        (pss_cons (ps_if (pt_cmpR (o_neD K hr.units) (pv 16) (pe_lc (own := [("_law_k", 11)]) rfl sc_law.nd (pi_range1 rfl T.f_range (pa_cons pe_int pa_nil)) (blkOk_by (own := [("_law_k", 11)]) (N := ["_law_script", "_law_d", "_law_step", "_law_people_here", "_law_line_here", "_law_durations_here", "_law_pace_here", "_law_grow", "_law_more", "_law_wet", "_law_size", "_law_k", "_law_fire", "_law_found", "_law_ends_here", "_law_tick", "_law_left", "_law_best", "_law_out", "_law_name", "_law_row"]) (sc := defScope s_law) (by decide +kernel)) (fun _ _ _ _ _ => (pg_name (i := 11) sc_law.nd rfl (Or.inl rfl))) (fun _ _ _ _ _ => pts_nil) (fun _ _ _ _ _ => (pe_op op_sub (pe_op op_add (pv 10) (pe_op op_mul (pv 7) (pe_ix (ixL K) (pv 14) (pv 11) (fun _ _ => rfl)))) (pe_op op_mul (pv 9) (pe_op op_add (pv 11) pe_int))))) (nomark _)) 
          (pss_one (ps_ret pe_bl)) pss_nil)
        (pss_cons (ps_set (i := 17) sc_law.nd rfl (.inl rfl) (pe_callB (c_max K rfl) (by rfl) T.f_max (by decide +kernel) (pa_cons (pe_op op_cat (pe_lst (pa_cons pe_int pa_nil)) (pe_lc (own := [("_law_k", 11)]) rfl sc_law.nd (pi_range1 rfl T.f_range (pa_cons pe_int pa_nil)) (blkOk_by (own := [("_law_k", 11)]) (N := ["_law_script", "_law_d", "_law_step", "_law_people_here", "_law_line_here", "_law_durations_here", "_law_pace_here", "_law_grow", "_law_more", "_law_wet", "_law_size", "_law_k", "_law_fire", "_law_found", "_law_ends_here", "_law_tick", "_law_left", "_law_best", "_law_out", "_law_name", "_law_row"]) (sc := defScope s_law) (by decide +kernel)) (fun _ _ _ _ _ => (pg_name (i := 11) sc_law.nd rfl (Or.inl rfl))) (fun _ _ _ _ _ => (pts_one (pt_cmpR op_le (pe_ix (ixL K) (pv 14) (pv 11) (fun _ _ => rfl)) (pv 15) (nomark _)))) (fun _ _ _ _ _ => (pe_op op_sub (pe_op op_mul (pv 9) (pe_op op_add (pv 11) pe_int)) (pe_op op_mul (pv 7) (pe_ix (ixL K) (pv 14) (pv 11) (fun _ _ => rfl))))))) pa_nil)))
        (Evl.pss_cut (ps_if (PW.pt (pw_and (pt_cmpR op_gt (pe_ix (ixL K) (pv 14) pe_int (fun _ _ => rfl)) (pv 15) (nomark _)) (pw_and1 (pt_not (pt_val (C8.pe_c cEq hr (by decide) rfl (pa_cons (C8.pe_c cLarge hr (by decide) rfl (pa_cons (pv 4) (pa_cons (pv 7) (pa_cons (pv 9) (pa_cons (pv 15) pa_nil))))) (pa_cons (pv 17) pa_nil)))))))) 
          (pss_one (ps_ret pe_bl)) pss_nil)
        (pss_cons (ps_setLc (i := 18) (own := [("_law_k", 11)]) rfl sc_law.nd rfl rfl (sw_true rfl rfl rfl (by decide +kernel)) (pi_range1 rfl T.f_range (pa_cons pe_int pa_nil)) (blkOk_by (own := [("_law_k", 11)]) (N := ["_law_script", "_law_d", "_law_step", "_law_people_here", "_law_line_here", "_law_durations_here", "_law_pace_here", "_law_grow", "_law_more", "_law_wet", "_law_size", "_law_k", "_law_fire", "_law_found", "_law_ends_here", "_law_tick", "_law_left", "_law_best", "_law_out", "_law_name", "_law_row"]) (sc := defScope s_law) (by decide +kernel)) (fun _ _ _ _ _ => (pg_name (i := 11) sc_law.nd rfl (Or.inl rfl))) (fun _ _ _ _ _ => (pts_one (pt_cmpR op_le (pe_ix (ixL K) (pv 16) (pv 11) (fun _ _ => rfl)) pe_int (nomark _)))) (fun _ _ _ _ _ => (pv 11)))
        (pss_one (ps_if (PW.pt (pw_and (pt_cmpR (o_neD K hr.units) (pv 18) (pe_lst pa_nil) (nomark _)) (pw_and1 (pt_not (pt_val (C8.pe_c cEq hr (by decide) rfl (pa_cons (pv 13) (pa_cons (pe_tup (pa_cons (pe_ix (ixL K) (pv 18) pe_int (fun _ _ => rfl)) (pa_cons (pe_ix (ixL K) (pv 14) (pe_ix (ixL K) (pv 18) pe_int (fun _ _ => rfl)) (fun _ _ => rfl)) pa_nil))) pa_nil)))))))) 
          (pss_one (ps_ret pe_bl)) pss_nil)))))))))))))))))))))
      (pss_one (ps_ret pe_bl)))), ?_⟩
    refine ⟨_, rfl, a, ns, 33, rfl, hS, hlen, by decide, fun H1 d l s1 hd src hl h1d => ?_⟩
    refine ⟨3, rfl, by decide, by decide, for_it (walk_range0 (n := 3)) (fun i σ H' => ∃ (l' : List Int) (v2 v3 v4 v5 v6 v7 v8 v9 v10 v11 v12 v13 v14 v15 v16 v17 v18 : Option V), σ = [some (.ref a), some (.ref d), v2, v3, v4, v5, v6, v7, v8, v9, v10, v11, v12, v13, v14, v15, v16, v17, v18, none, none] ∧ H' d = some (.lst (ivs l')) ∧ Src l')
      ⟨l, none, none, none, none, none, none, none, none, none, none, none, none, none, none, none, none, none, rfl, h1d, src⟩ (fun _ _ _ _ _ => trivial) ?_ ?_⟩
    · rintro i x σ H' H0 hi ⟨l', v2, v3, v4, v5, v6, v7, v8, v9, v10, v11, v12, v13, v14, v15, v16, v17, v18, rfl, hd0, src0⟩ ⟨rfl, rfl⟩
      -- people
      refine ⟨_, rfl, (by show 2 ≤ sizeLine; decide), fun t1 ht1 => ?_⟩
      have nt1 : t1 ≠ d := fun e => by rw [e, hd0] at ht1; cases ht1
      refine ⟨_, rfl, d, l', 2, rfl, by rw [upd_ne (Ne.symm nt1)]; exact hd0, src0, by decide, by decide, fun r1 l1 r10 r11 src1 hl1 => ?_⟩
      obtain ⟨most, hmost, hm1, hm2⟩ : ∃ m : Int, atI [V.int 3, V.int 6] r1 = some (.int m) ∧ 2 ≤ m ∧ m ≤ 12 := by
        have h : r1 = 0 ∨ r1 = 1 := by omega
        rcases h with rfl | rfl
        · exact ⟨3, rfl, by decide, by decide⟩
        · exact ⟨6, rfl, by decide, by decide⟩
      refine ⟨t1, _, r1, _, rfl, rfl, SqL.of (by rw [upd_ne nt1]; exact upd_same), hmost, ?_⟩
      refine ⟨d, l1, most, rfl, upd_same, src1, hm1, hm2, fun H2 pl l2 ps hV _ _ src2 _ h2d hpl ow => ?_⟩
      have npl : pl ≠ d := fun e => by rw [e, upd_same] at hpl; cases hpl
      obtain ⟨us, ow1, ow2⟩ := ow
      have hul : us.length = ps.length := by rw [ow2.len]; unfold pyPs; simp
      have dps : DpAll K (delH H2 d) us (pyPs ps) := ow2.same same_del
      have h2p : H2 pl = some (.lst us) := same_del _ _ ow1
      have hi12 := hV.hi
      -- the paces up to nine
      refine ⟨_, rfl, pl, rfl, ⟨_, SqL.of h2p⟩, fun D hD => ?_⟩
      have nD : D ≠ d := fun e => by rw [e, h2d] at hD; cases hD
      refine lc_it (walk_list (K := K) (a := pl) (xs := us)) (fun i G => ∃ G0 vs, G = upd G0 D (.lst vs) ∧ G0 D = none ∧ Same H2 G0 ∧ DpAll K (delH G0 d) vs (pyPs (nine (ps.take i)))) ⟨H2, [], rfl, hD, Same.refl _, .nil⟩ ?_ ?_ ?_
      · rintro j G _ ⟨G0, vs, rfl, hG, sG, _⟩
        exact SqL.of (same_new hG _ _ (sG _ _ h2p))
      · rintro j x G G' hj ⟨G0, vs, rfl, hG, sG, dv⟩ ⟨rfl, hx⟩
        obtain ⟨e, he1, he2⟩ := dps.get hx
        obtain ⟨q, hq, rfl⟩ := pyPs_get he1
        obtain ⟨b, rfl, hb⟩ := dp_person he2
        have hb1 : SqT K G0 b [.str q.1, .int q.2] := (same_del.trans sG).seqT hb
        refine ⟨b, _, rfl, (same_new hG).seqT hb1, rfl, _, _, rfl, _, _, rfl, rfl, rfl, _, rfl, _, rfl, _, _, rfl, rfl, (by show (0 : Int) < 9; decide), _, _, rfl, rfl, (by show 2 ≤ sizeLine; decide), fun t ht => ?_⟩
        have htD : t ≠ D := fun z => by rw [z, upd_same] at ht; cases ht
        have ht0 : G0 t = none := by rw [upd_ne htD] at ht; exact ht
        have htd : t ≠ d := fun z => by rw [z, sG _ _ h2d] at ht0; cases ht0
        refine ⟨vs, by rw [upd_ne (Ne.symm htD)]; exact upd_same, ?_, upd G0 t (.tup [.str q.1, .int (1 + q.2 % 9)]), vs ++ [.ref t], upd_swap htD, by rw [upd_ne (Ne.symm htD)]; exact hG, sG.trans (same_new ht0), ?_⟩
        · refine szl ?_
          have := dv.len
          rw [this]
          unfold pyPs nine
          rw [List.length_map, List.length_map, List.length_take]
          omega
        · rw [List.take_add_one, hq]
          unfold nine pyPs
          rw [List.map_append, List.map_append]
          refine (dv.same (SD.of (d := d) (same_new ht0))).app (.cons ?_ .nil)
          exact dp_mk_tup (by rw [delH_ne htd]; exact upd_same) (.cons (.str _) (.cons (.int _) .nil))
      rintro G ⟨G0, vs, rfl, hG, sG, dv⟩
      rw [hul, List.take_length] at dv
      have hV9 := nine_valid hV
      have le9 := nine_le ps
      generalize nine ps = ps9 at *
      have h3d : upd G0 D (.lst vs) d = some (.lst (ivs l2)) := by rw [upd_ne (Ne.symm nD)]; exact sG _ _ h2d
      have h3D : upd G0 D (.lst vs) D = some (.lst vs) := upd_same
      have dv3 : DpAll K (delH (upd G0 D (.lst vs)) d) vs (pyPs ps9) := dv.same (SD.of (d := d) (same_new hG))
      generalize upd G0 D (.lst vs) = H3 at *
      have dps9 : Dp K H3 (.ref D) (.list (pyPs ps9)) := dp_mk_lst h3D (dv3.same same_del)
      refine ⟨_, rfl, _, ps9, rfl, dps9, hV9, fun H4 lv s4 hL4 => ?_⟩
      obtain ⟨la, ldx, lp, lxs, rfl, hla, hlp, hlx⟩ := id hL4
      have h4d := s4 _ _ h3d
      have h4D := s4 _ _ h3D
      have LW : IsLine K C (delH H4 d) (.ref la) ps9 := line_del h4d hL4
      have dv4 : DpAll K (delH H4 d) vs (pyPs ps9) := dv3.same (SD.of s4)
      have vl : vs.length = ps9.length := by rw [dv4.len]; unfold pyPs; simp
      have hi9 := hV9.hi
      -- durations
      refine ⟨_, rfl, D, rfl, ⟨_, SqL.of h4D⟩, fun D2 hD2 => ?_⟩
      have nD2 : D2 ≠ d := fun e => by rw [e, h4d] at hD2; cases hD2
      refine lc_it (walk_list (K := K) (a := D) (xs := vs)) (fun i G => G = upd H4 D2 (.lst (ivs ((pacesOf ps9).take i)))) rfl ?_ ?_ ?_
      · rintro j G _ rfl
        exact SqL.of (same_new hD2 _ _ h4D)
      · rintro j x G G' hj rfl ⟨rfl, hx⟩
        obtain ⟨e, he1, he2⟩ := dv4.get hx
        obtain ⟨q, hq, rfl⟩ := pyPs_get he1
        obtain ⟨b, rfl, hb⟩ := dp_person he2
        refine ⟨b, _, rfl, ((same_del (a := d)).trans (same_new hD2)).seqT hb, rfl, _, _, rfl, _, _, rfl, rfl, rfl, _, rfl, _, upd_same, ?_, ?_⟩
        · rw [ivs_len]
          exact szl (Nat.lt_of_le_of_lt (List.length_take_le _ _) (by omega))
        · rw [upd_upd, List.take_add_one]
          unfold pacesOf
          rw [List.getElem?_map, hq, ivs_app]
          simp [ivs]
      rintro G rfl
      rw [vl, ← pacesOf_len, List.take_length]
      have s5 : Same H4 (upd H4 D2 (.lst (ivs (pacesOf ps9)))) := same_new hD2
      have h5D : upd H4 D2 (.lst (ivs (pacesOf ps9))) D2 = some (.lst (ivs (pacesOf ps9))) := upd_same
      generalize upd H4 D2 (.lst (ivs (pacesOf ps9))) = H5 at *
      have DB := durB_of hV9
      have P18 := pace_18 hV9 le9
      have pp := DB.pace_pos
      refine ⟨D2, ps9, rfl, SqL.of h5D, hV9, fun H6 dl s6 hdl h6l => ?_⟩
      have h5d := s5 _ _ h4d
      have ndl : dl ≠ d := fun e => by rw [e, h5d] at hdl; cases hdl
      refine ⟨_, _, rfl, ?_⟩
      refine ⟨_, rfl, dl, dursOf ps9, rfl, SqL.of h6l, DB, fun H7 s7 => ?_⟩
      have h7d := s7 _ _ (s6 _ _ h5d)
      have W7 : SD d H4 H7 := SD.of (s5.trans (s6.trans s7))
      have h7l := s7 _ _ h6l
      have h7D := s7 _ _ (s6 _ _ (s5 _ _ h4D))
      have L7 : IsLine K C (delH H7 d) (.ref la) ps9 := LW.same W7
      have dv7 : DpAll K (delH H7 d) vs (pyPs ps9) := dv4.same W7
      clear W7 LW dv4 hL4 hla hlp hlx h6l h4D h3D dv3 dps9 dv sG hG s4 s5 s6 s7 h5d h4d h3d dps h2p h2d hul ow1 ow2
      have w7 : W33 K C H7 d l2 D dl la vs ps9 := ⟨h7d, src2, by rw [delH_ne nD]; exact h7D, by rw [delH_ne ndl]; exact h7l, L7, dv7⟩
      clear h7d h7D h7l L7 dv7
      generalize hpc : paceL (dursOf ps9) = pc at *
      -- grow
      refine ⟨_, rfl, _, _, rfl, rfl, ⟨by decide, by decide, by decide⟩, (by show 3 ≤ sizeLine; decide), fun t2 ht2 => ?_⟩
      have nt2 : t2 ≠ d := fun e => by rw [e, w7.hd] at ht2; cases ht2
      have w8 := w7.same (same_new (o := .lst [.int 3, .int 50, .int (10 ^ (6 : Int).toNat)]) ht2)
      have h8t : upd H7 t2 (.lst [.int 3, .int 50, .int (10 ^ (6 : Int).toNat)]) t2 = some (.lst [.int 3, .int 50, .int 1000000]) := upd_same
      refine ⟨_, rfl, d, l2, 3, rfl, w8.hd, w8.src, by decide, by decide, fun r2 l3 r20 r21 src3 _ => ?_⟩
      have w9 := w8.mut src3
      obtain ⟨lim, hlim, hlim'⟩ := at3 (x := 3) (y := 50) (z := 1000000) r20 r21
      refine ⟨t2, _, r2, _, rfl, rfl, SqL.of (by rw [upd_ne nt2]; exact h8t), hlim, ?_⟩
      refine ⟨d, l3, lim, rfl, w9.hd, w9.src, by omega, by omega, fun grow l4 gr0 gr1 src4 _ => ?_⟩
      have w10 := w9.mut src4
      have gr2 : grow ≤ 1000000 := by omega
      generalize upd (upd (upd H7 t2 (.lst [.int 3, .int 50, .int (10 ^ (6 : Int).toNat)])) d (.lst (ivs l3))) d (.lst (ivs l4)) = H10 at *
      clear w7 w8 w9 hlim' hlim gr1
      -- more
      refine ⟨_, rfl, d, l4, 5, rfl, w10.hd, w10.src, by decide, by decide, fun q1 m1 q10 q11 sm1 _ => ?_⟩
      have w11 := w10.mut sm1
      refine ⟨_, _, rfl, rfl, _, rfl, d, m1, 9, rfl, w11.hd, w11.src, by decide, by decide, fun q2 m2 q20 q21 sm2 _ => ?_⟩
      have w12 := w11.mut sm2
      refine ⟨_, _, rfl, rfl, _, rfl, d, m2, 99, rfl, w12.hd, w12.src, by decide, by decide, fun q3 m3 q30 q31 sm3 _ => ?_⟩
      have w13 := w12.mut sm3
      refine ⟨(by show 4 ≤ sizeLine; decide), fun t3 ht3 => ?_⟩
      generalize upd (upd (upd H10 d (.lst (ivs m1))) d (.lst (ivs m2))) d (.lst (ivs m3)) = H13 at *
      clear w10 w11 w12
      have nt3 : t3 ≠ d := fun e => by rw [e, w13.hd] at ht3; cases ht3
      have w14 := w13.same (same_new (o := .lst [.int (0 - q1), .int 0, .int (1 + q2), .int q3]) ht3)
      have h14 : upd H13 t3 (.lst [.int (0 - q1), .int 0, .int (1 + q2), .int q3]) t3 = some (.lst [.int (0 - q1), .int 0, .int (1 + q2), .int q3]) := upd_same
      generalize upd H13 t3 (.lst [.int (0 - q1), .int 0, .int (1 + q2), .int q3]) = H14 at *
      refine ⟨_, rfl, d, m3, 4, rfl, w14.hd, w14.src, by decide, by decide, fun q4 m4 q40 q41 sm4 _ => ?_⟩
      have w15 := w14.mut sm4
      obtain ⟨more, hmore, hmore'⟩ := at4 (x := 0 - q1) (y := 0) (z := 1 + q2) (u := q3) q40 q41
      have mo : more ≤ 99 := by omega
      refine ⟨t3, _, q4, _, rfl, rfl, SqL.of (by rw [upd_ne nt3]; exact h14), hmore, ?_⟩
      generalize upd H14 d (.lst (ivs m4)) = H15 at *
      clear w13 w14 hmore' hmore h14
      -- wet
      refine ⟨_, rfl, _, rfl, _, _, rfl, rfl, .inl ⟨by omega, by omega⟩, _, rfl, _, _, rfl, rfl, (by show 2 ≤ sizeLine; decide), fun t4 ht4 => ?_⟩
      have w16 := w15.same (same_new (o := .lst [.int 1, .int (grow * pc + more)]) ht4)
      have h16 : upd H15 t4 (.lst [.int 1, .int (grow * pc + more)]) t4 = some (.lst (ivs [1, grow * pc + more])) := upd_same
      refine ⟨t4, [1, grow * pc + more], rfl, SqL.of h16, (by show 0 < 2; decide), fun wet hwet hwet' => ?_⟩
      have ewet := two_max hwet hwet'
      have gp1 : grow * pc ≤ grow * 18 := Int.mul_le_mul_of_nonneg_left P18 gr0
      have gp0 : 0 ≤ grow * pc := Int.mul_nonneg gr0 (by omega)
      have we0 : 1 ≤ wet := by rw [ewet]; split <;> omega
      have we1 : wet ≤ 18000099 := by rw [ewet]; split <;> omega
      generalize upd H15 t4 (.lst [.int 1, .int (grow * pc + more)]) = H16 at *
      clear w15 hwet hwet' h16
      -- size, k
      refine ⟨_, rfl, _, _, rfl, rfl, ⟨by decide, by decide, by decide⟩, (by show 3 ≤ sizeLine; decide), fun t5 ht5 => ?_⟩
      have nt5 : t5 ≠ d := fun e => by rw [e, w16.hd] at ht5; cases ht5
      have w17 := w16.same (same_new (o := .lst [.int 30, .int 3000, .int (10 ^ (15 : Int).toNat)]) ht5)
      have h17t : upd H16 t5 (.lst [.int 30, .int 3000, .int (10 ^ (15 : Int).toNat)]) t5 = some (.lst [.int 30, .int 3000, .int 1000000000000000]) := upd_same
      refine ⟨_, rfl, d, m4, 3, rfl, w17.hd, w17.src, by decide, by decide, fun r5 l5 r50 r51 src5 _ => ?_⟩
      have w18 := w17.mut src5
      obtain ⟨lim5, hlim5, hlim5'⟩ := at3 (x := 30) (y := 3000) (z := 1000000000000000) r50 r51
      refine ⟨t5, _, r5, _, rfl, rfl, SqL.of (by rw [upd_ne nt5]; exact h17t), hlim5, ?_⟩
      refine ⟨d, l5, lim5, rfl, w18.hd, w18.src, by omega, by omega, fun sz0 l6 sz00 sz01 src6 _ => ?_⟩
      have w19 := w18.mut src6
      have sz02 : 1 + sz0 ≤ 1000000000000000 := by omega
      generalize upd (upd (upd H16 t5 (.lst [.int 30, .int 3000, .int (10 ^ (15 : Int).toNat)])) d (.lst (ivs l5))) d (.lst (ivs l6)) = H19 at *
      clear w16 w17 w18 hlim5' hlim5 sz01 h17t
      refine ⟨_, _, rfl, rfl, _, rfl, d, l6, 60, rfl, w19.hd, w19.src, by decide, by decide, fun kk l7 kk0 kk1 src7 _ => ?_⟩
      have w20 := w19.mut src7
      refine ⟨(by show 2 ≤ sizeLine; decide), fun t6 ht6 => ?_⟩
      have w21 := w20.same (same_new (o := .tup [.int (1 + sz0), .int kk]) ht6)
      refine ⟨t6, _, rfl, SqT.of' upd_same, rfl, _, _, rfl, _, _, rfl, rfl, ?_⟩
      generalize upd (upd H19 d (.lst (ivs l7))) t6 (.tup [.int (1 + sz0), .int kk]) = H21 at *
      clear w19 w20
      refine ⟨fun σ H' => ∃ (l8 : List Int) (sz : Int), σ = [some (.ref a), some (.ref d), some (.int (i : Nat)), some (.ref D), some (.ref la), some (.ref dl), some (.int pc), some (.int grow), some (.int more), some (.int wet), some (.int sz), some (.int kk), v12, v13, v14, v15, v16, v17, v18, none, none] ∧
        W33 K C H' d l8 D dl la vs ps9 ∧ 1 ≤ sz ∧ sz ≤ 1000000000000000, ?_, ?_⟩
      · refine ⟨_, rfl, d, l7, 2, rfl, w21.hd, w21.src, by decide, by decide, fun r8 l8 r80 r81 src8 _ => ?_⟩
        have w22 := w21.mut src8
        refine ⟨rfl, _, rfl, iteD (fun _ => ?_) (fun _ => ?_)⟩
        · have sm0 : 0 ≤ (dursOf ps9).sum := sum_nn DB.nn
          have kp0 : 0 ≤ kk * pc := Int.mul_nonneg kk0 (by omega)
          have gs0 : 0 ≤ grow * ((dursOf ps9).sum + kk * pc) := Int.mul_nonneg gr0 (by omega)
          have wk1 : wet * (kk + 1) ≤ wet * 60 := Int.mul_le_mul_of_nonneg_left (by omega) (by omega)
          refine ⟨_, rfl, _, rfl, _, _, rfl, rfl, _, _, rfl, rfl, .inl ⟨by omega, by omega⟩, _, rfl, _, rfl, dl, dursOf ps9, rfl, SqL.of (same_del _ _ w22.hl), _, rfl, _, rfl, _, _, rfl, rfl, .inl ⟨by omega, by omega⟩, _, _, rfl, rfl, _, _, rfl, rfl, .inl ⟨by omega, by omega⟩, _, _, rfl, rfl, (by show 2 ≤ sizeLine; decide), fun t7 ht7 => ?_⟩
          refine ⟨t7, [1, wet * (kk + 1) - grow * ((dursOf ps9).sum + kk * pc)], rfl, SqL.of upd_same, (by show 0 < 2; decide), fun sz hsz hsz' => ?_⟩
          have esz := two_max hsz hsz'
          refine ⟨l8, sz, rfl, w22.same (same_new ht7), ?_, ?_⟩
          · rw [esz]; split <;> omega
          · rw [esz]; split <;> omega
        · exact ⟨l8, 1 + sz0, rfl, w22, by omega, sz02⟩
      · rintro σ H22 ⟨l8, sz, rfl, w22, sz0', sz1'⟩
        have ok : FireOk sz grow wet := ⟨sz0', by omega, gr0, gr2, we0, by omega⟩
        refine ⟨_, rfl, _, rfl, _, rfl, rfl, rfl, fun fi fdx hx hdx hne => mk_fire hx hdx hne ok fun H23 s23 hF23 => ⟨rfl, ?_⟩⟩
        have w23 := w22.same s23
        refine ⟨_, rfl, _, rfl, _, rfl, _, rfl, rfl, rfl, fun f2 f2dx hx hdx hne => mk_fire hx hdx hne ok fun H24 s24 hF24 => ⟨rfl, ?_⟩⟩
        have w24 := w23.same s24
        have L24 : IsLine K C H24 (.ref la) ps9 := w24.L.same same_del
        refine ⟨la, f2, ps9, sz, grow, wet, rfl, L24, hV9, hF24, ok, fun H25 fv s25 hfv => ?_⟩
        have w25 := w24.same s25
        have hF25 := hF23.same (s24.trans s25)
        refine ⟨(by show 2 ≤ sizeLine; decide), fun t8 ht8 => ?_⟩
        have s26 := same_new (o := .tup [.ref fi, fv]) ht8
        refine ⟨t8, _, rfl, SqT.of' upd_same, rfl, _, _, rfl, _, _, rfl, rfl, ?_⟩
        have w26 := w25.same s26
        have hF26 := hF25.same s26
        have hfv26 : FoundV (dursOf ps9) sz grow wet (upd H25 t8 (.tup [.ref fi, fv])) fv := hfv.same s26
        generalize upd H25 t8 (.tup [.ref fi, fv]) = H26 at *
        clear w22 w23 w24 w25 hF23 hF24 hF25 hfv L24
        have hbn : decide (fv = V.non) = decide (wet ≤ grow * pc) := by
          rcases hfv26 with ⟨rfl, hn⟩ | ⟨t, b, rfl, ho, _⟩
          · rw [decide_eq_true rfl]
            rcases Int.lt_or_le (grow * pc) wet with z | z
            · exfalso
              rw [← hpc] at z
              obtain ⟨m, _, ho⟩ := out_far DB (s := sz) (g := grow) (w := wet) (fun j _ => hn j) (by omega)
              have := ho.out
              have := hn (stN (dursOf ps9) + m)
              omega
            · rw [decide_eq_true z]
          · have := ho.gain DB sz0' gr0
            rw [hpc] at this
            rw [decide_eq_false (by intro z; cases z), decide_eq_false (by omega)]
        refine ⟨_, rfl, rfl, _, rfl, _, rfl, _, rfl, _, _, rfl, rfl, .inl ⟨by omega, by omega⟩, _, _, rfl, rfl, ?_⟩
        rw [hbn]
        refine ⟨rfl, _, rfl, iteN (fun h => absurd rfl h) fun _ => ?_⟩
        -- is out
        have lo9 := hV9.lo
        obtain ⟨pe, hpe⟩ : ∃ q, ps9[ps9.length - 1]? = some q := ⟨_, List.getElem?_eq_getElem (by omega)⟩
        have hpy : (pyPs ps9)[ps9.length - 1]? = some (pyP pe) := by unfold pyPs; rw [List.getElem?_map, hpe]; rfl
        obtain ⟨ve, hve, hdp⟩ := w26.dv.at hpy
        obtain ⟨tp, rfl, hsq⟩ := dp_person hdp
        have hnm : (namesOf ps9)[ps9.length - 1]? = some pe.1 := by unfold namesOf; rw [List.getElem?_map, hpe]; rfl
        have hsq26 : SqT K H26 tp [.str pe.1, .int pe.2] := same_del.seqT hsq
        have L26 : IsLine K C H26 (.ref la) ps9 := w26.L.same same_del
        refine ⟨_, rfl, _, rfl, _, rfl, D, vs, _, _, rfl, rfl, SqL.of (same_del _ _ w26.hD), at_end (n := ps9.length - 1) (by omega) hve, tp, _, _, _, rfl, rfl, hsq26, at_0, _, rfl, _, rfl, _, rfl, la, ps9, pe.1, sz, grow, wet, rfl, L26, hV9, hnm, ok, by omega, fun H27 s27 => ?_⟩
        refine ⟨_, rfl, iteF ?_⟩
        have w27 := w26.same s27
        have hF27 := hF26.same s27
        have hfv27 := hfv26.same s27
        clear w26 hF26 hfv26 hsq26 L26 hsq hdp hve hpy
        -- the ends of the first sixty buckets
        refine ⟨_, rfl, (by show 1 ≤ sizeLine; decide), fun t9 ht9 => ?_⟩
        have w28 := w27.same (same_new (o := .lst [.ref dl]) ht9)
        have s28 := same_new (o := .lst [.ref dl]) ht9
        have h28 : upd H27 t9 (.lst [.ref dl]) t9 = some (.lst [.ref dl]) := upd_same
        generalize upd H27 t9 (.lst [.ref dl]) = H28 at *
        refine ⟨t9, 60, _, rfl, rfl, h28, by decide, by decide, (by show 1 * 60 ≤ sizeLine; decide), fun t10 ht10 => ?_⟩
        have s29 := same_new (o := .lst (List.replicate (60 : Int).toNat [V.ref dl]).flatten) ht10
        have w29 := w28.same s29
        have h29 : upd H28 t10 (.lst (List.replicate (60 : Int).toNat [V.ref dl]).flatten) t10 = some (.lst (List.replicate 60 (.ref dl))) := upd_same
        generalize upd H28 t10 (.lst (List.replicate (60 : Int).toNat [V.ref dl]).flatten) = H29 at *
        refine ⟨t10, dl, 60, dursOf ps9, rfl, SqL.of h29, SqL.of (same_del _ _ w29.hl), by decide, DB, fun H30 tb s30 htb tab => ?_⟩
        have w30 := w29.same s30
        obtain ⟨rows, rw1, rw2, rw3⟩ := tab
        refine ⟨tb, rfl, ⟨_, SqL.of rw1⟩, fun D3 hD3 => ?_⟩
        refine lc_it (walk_list (K := K) (a := tb) (xs := rows)) (fun i G => G = upd H30 D3 (.lst (ivs ((lasts (dursOf ps9)).take i)))) rfl ?_ ?_ ?_
        · rintro j G _ rfl
          exact SqL.of (same_new hD3 _ _ rw1)
        · rintro j x G G' hj rfl ⟨rfl, hx⟩
          rw [rw2] at hj
          obtain ⟨q, q1, q2, q3⟩ := rw3 j hj
          rw [q1] at hx
          cases hx
          refine ⟨rfl, _, rfl, _, rfl, q, _, _, _, rfl, rfl, SqL.of (same_new hD3 _ _ q3), row_last DB.ne j, _, upd_same, ?_, ?_⟩
          · rw [ivs_len]
            exact szl (Nat.lt_of_le_of_lt (List.length_take_le _ _) (by omega))
          · rw [upd_upd, List.take_add_one, lasts_get hj, ivs_app]
            rfl
        rintro G rfl
        rw [rw2, List.take_of_length_le (by rw [lasts_len]; decide)]
        have s31 := same_new (o := .lst (ivs (lasts (dursOf ps9)))) hD3
        have w31 := w30.same s31
        have nD3 : D3 ≠ d := fun e => by rw [e, w30.hd] at hD3; cases hD3
        have h31 : upd H30 D3 (.lst (ivs (lasts (dursOf ps9)))) D3 = some (.lst (ivs (lasts (dursOf ps9)))) := upd_same
        have s2731 : Same H27 (upd H30 D3 (.lst (ivs (lasts (dursOf ps9))))) := ((s28.trans s29).trans s30).trans s31
        generalize upd H30 D3 (.lst (ivs (lasts (dursOf ps9)))) = H31 at *
        have hF31 := hF27.same s2731
        have hfv31 := hfv27.same s2731
        clear w27 w28 w29 w30 hF27 hfv27 s28 s29 s30 s31 s2731 h28 h29 rw1 rw2 rw3
        refine ⟨_, rfl, d, l8, 300, rfl, w31.hd, w31.src, by decide, by decide, fun tick l9 ti0 ti1 src9 _ => ?_⟩
        have w32 := w31.mut src9
        have hF32 : IsFire CF (upd H31 d (.lst (ivs l9))) (.ref fi) sz grow wet := by
          obtain ⟨f', fx, e, hf⟩ := hF31
          cases e
          exact ⟨fi, fx, rfl, by rw [upd_ne (ne_of hf w31.hd (by intro z; cases z))]; exact hf⟩
        have hfv32 : FoundV (dursOf ps9) sz grow wet (upd H31 d (.lst (ivs l9))) fv := by
          rcases hfv31 with h | ⟨t, b, h1, h2, h3⟩
          · exact .inl h
          · exact .inr ⟨t, b, h1, h2, by rw [upd_ne (ne_of h3 w31.hd (by intro z; cases z))]; exact h3⟩
        have h32 : upd H31 d (.lst (ivs l9)) D3 = some (.lst (ivs (lasts (dursOf ps9)))) := by rw [upd_ne nD3]; exact h31
        generalize upd H31 d (.lst (ivs l9)) = H32 at *
        refine ⟨(by show 2 ≤ sizeLine; decide), fun t11 ht11 => ?_⟩
        have s33 := same_new (o := .tup [.ref D3, .int tick]) ht11
        refine ⟨t11, _, rfl, SqT.of' upd_same, rfl, _, _, rfl, _, _, rfl, rfl, ?_⟩
        have w33 := w32.same s33
        have hF33 := hF32.same s33
        have hfv33 := hfv32.same s33
        have h33 := s33 _ _ h32
        generalize upd H32 t11 (.tup [.ref D3, .int tick]) = H33 at *
        clear w31 w32 hF31 hF32 hfv31 hfv32 h31 h32 s33
        have atE : ∀ {j : Nat}, j < 60 → atI (ivs (lasts (dursOf ps9))) ((j : Nat) : Int) = some (.int (lastE (dursOf ps9) j)) := fun hj => atI_nat (ivs_at (lasts_get hj))
        -- left
        refine ⟨60, rfl, by decide, by decide, fun D4 hD4 => ?_⟩
        refine lc_it (walk_range0 (n := 60)) (fun i G => G = upd H33 D4 (.lst (ivs ((lefts (dursOf ps9) sz grow wet).take i)))) rfl (fun _ _ _ _ => trivial) ?_ ?_
        · rintro j x G G' hj rfl ⟨rfl, rfl⟩
          have s4 := same_new (o := .lst (ivs ((lefts (dursOf ps9) sz grow wet).take j))) hD4
          obtain ⟨f', fx, e, hf⟩ := id (hF33.same s4)
          cases e
          refine ⟨rfl, _, rfl, fi, fx, _, rfl, hf, firF_left, _, rfl, _, rfl, _, rfl, D3, _, _, _, rfl, rfl, SqL.of (s4 _ _ h33), atE hj, fi, sz, grow, wet, _, _, rfl, hF33.same s4, ok, _, upd_same, ?_, ?_⟩
          · rw [ivs_len]
            exact szl (Nat.lt_of_le_of_lt (List.length_take_le _ _) (by omega))
          · rw [upd_upd, List.take_add_one, lefts_get hj, ivs_app]
            rfl
        rintro G rfl
        rw [List.take_of_length_le (by rw [lefts_len]; decide)]
        have s34 := same_new (o := .lst (ivs (lefts (dursOf ps9) sz grow wet))) hD4
        have w34 := w33.same s34
        have hF34 := hF33.same s34
        have hfv34 := hfv33.same s34
        have h34 := s34 _ _ h33
        have h34l : upd H33 D4 (.lst (ivs (lefts (dursOf ps9) sz grow wet))) D4 = some (.lst (ivs (lefts (dursOf ps9) sz grow wet))) := upd_same
        generalize upd H33 D4 (.lst (ivs (lefts (dursOf ps9) sz grow wet))) = H34 at *
        clear w33 hF33 hfv33 h33 s34
        -- left once more
        refine ⟨_, rfl, 60, rfl, by decide, by decide, fun D5 hD5 => ?_⟩
        refine lc_it (walk_range0 (n := 60)) (fun i G => G = upd H34 D5 (.lst (ivs ((lefts (dursOf ps9) sz grow wet).take i)))) rfl (fun _ _ _ _ => trivial) ?_ ?_
        · rintro j x G G' hj rfl ⟨rfl, rfl⟩
          have s5 := same_new (o := .lst (ivs ((lefts (dursOf ps9) sz grow wet).take j))) hD5
          refine ⟨rfl, _, rfl, _, rfl, _, rfl, _, rfl, D3, _, _, _, rfl, rfl, SqL.of (s5 _ _ h34), atE hj, _, _, rfl, rfl, .inl ⟨by omega, by omega⟩, _, _, rfl, rfl, _, rfl, _, rfl, _, _, rfl, rfl, _, _, rfl, rfl, .inl ⟨by omega, by omega⟩, _, _, rfl, rfl, _, upd_same, ?_, ?_⟩
          · rw [ivs_len]
            exact szl (Nat.lt_of_le_of_lt (List.length_take_le _ _) (by omega))
          · rw [upd_upd, List.take_add_one, lefts_get hj, ivs_app]
            rfl
        rintro G rfl
        rw [List.take_of_length_le (by rw [lefts_len]; decide)]
        have s35 := same_new (o := .lst (ivs (lefts (dursOf ps9) sz grow wet))) hD5
        have w35 := w34.same s35
        have hfv35 := hfv34.same s35
        have h35 := s35 _ _ h34
        have h35l := s35 _ _ h34l
        have h35r : upd H34 D5 (.lst (ivs (lefts (dursOf ps9) sz grow wet))) D5 = some (.lst (ivs (lefts (dursOf ps9) sz grow wet))) := upd_same
        generalize upd H34 D5 (.lst (ivs (lefts (dursOf ps9) sz grow wet))) = H35 at *
        clear w34 hF34 hfv34 h34 h34l s35
        refine ⟨_, _, dp_mk_lst h35l (dps_ints _), dp_mk_lst h35r (dps_ints _), shaped_ints _, shaped_ints _, _, rfl, ?_⟩
        rw [eqv_ints]
        refine iteN (fun h => absurd rfl h) fun _ => ?_
        -- best
        refine ⟨(by show 1 ≤ sizeLine; decide), fun t12 ht12 => ?_⟩
        have s36 := same_new (o := .lst [.int 0]) ht12
        have w36 := w35.same s36
        have hfv36 := hfv35.same s36
        have h36 := s36 _ _ h35
        have h36l := s36 _ _ h35l
        have h36t : upd H35 t12 (.lst [.int 0]) t12 = some (.lst [.int 0]) := upd_same
        generalize upd H35 t12 (.lst [.int 0]) = H36 at *
        clear w35 hfv35 h35 h35l h35r s36
        refine ⟨60, rfl, by decide, by decide, fun D6 hD6 => ?_⟩
        refine lc_it (walk_range0 (n := 60)) (fun i G => ∃ bs : List Int, G = upd H36 D6 (.lst (ivs bs)) ∧ bs.length ≤ i ∧ (∀ y ∈ bs, ∃ b : Nat, b < i ∧ lastE (dursOf ps9) b ≤ tick ∧ y = wet * ((b : Int) + 1) - grow * lastE (dursOf ps9) b) ∧ ∀ b : Nat, b < i → lastE (dursOf ps9) b ≤ tick → wet * ((b : Int) + 1) - grow * lastE (dursOf ps9) b ∈ bs)
          ⟨[], rfl, Nat.le_refl _, fun (y : Int) (hy : y ∈ []) => absurd hy (by simp), fun b hb => absurd hb (by omega)⟩ (fun _ _ _ _ => trivial) ?_ ?_
        · rintro j x G G' hj ⟨bs, rfl, bl, b1, b2⟩ ⟨rfl, rfl⟩
          have s6 := same_new (o := .lst (ivs bs)) hD6
          refine ⟨rfl, _, rfl, _, rfl, D3, _, _, _, rfl, rfl, SqL.of (s6 _ _ h36), atE hj, _, rfl, _, _, rfl, rfl, _, rfl, iteD (fun h0 => ?_) (fun h0 => ?_)⟩
          · refine ⟨_, rfl, _, rfl, _, _, rfl, rfl, _, _, rfl, rfl, .inl ⟨by omega, by omega⟩, _, rfl, _, rfl, _, rfl, D3, _, _, _, rfl, rfl, SqL.of (s6 _ _ h36), atE hj, _, _, rfl, rfl, .inl ⟨by omega, by omega⟩, _, _, rfl, rfl, _, upd_same, szl (by rw [ivs_len]; omega), bs ++ [wet * ((j : Int) + 1) - grow * lastE (dursOf ps9) j], ?_, by rw [List.length_append]; show _ + 1 ≤ _; omega, fun y hy => ?_, fun b hb hbt => ?_⟩
            · rw [upd_upd, ivs_app]
              rfl
            · rcases List.mem_append.mp hy with hy | hy
              · obtain ⟨b, c1, c2, c3⟩ := b1 y hy
                exact ⟨b, by omega, c2, c3⟩
              · exact ⟨j, by omega, h0, List.mem_singleton.mp hy⟩
            · by_cases hbj : b < j
              · exact List.mem_append.mpr (.inl (b2 b hbj hbt))
              · have : b = j := by omega
                subst this
                exact List.mem_append.mpr (.inr (List.mem_singleton.mpr rfl))
          · refine ⟨bs, rfl, by omega, fun y hy => ?_, fun b hb hbt => ?_⟩
            · obtain ⟨b, c1, c2, c3⟩ := b1 y hy
              exact ⟨b, by omega, c2, c3⟩
            · by_cases hbj : b < j
              · exact b2 b hbj hbt
              · have : b = j := by omega
                subst this
                exact absurd hbt h0
        rintro G ⟨bs, rfl, bl, b1, b2⟩
        have s37 := same_new (o := .lst (ivs bs)) hD6
        have w37 := w36.same s37
        have hfv37 := hfv36.same s37
        have h37 := s37 _ _ h36
        have h37l := s37 _ _ h36l
        have h37t := s37 _ _ h36t
        have h37b : upd H36 D6 (.lst (ivs bs)) D6 = some (.lst (ivs bs)) := upd_same
        generalize upd H36 D6 (.lst (ivs bs)) = H37 at *
        refine ⟨t12, D6, _, _, rfl, rfl, h37t, h37b, Bk.sz (by rw [ivs_len]; show 1 + _ ≤ _; omega), fun t13 ht13 => ?_⟩
        have s38 := same_new (o := .lst ([V.int 0] ++ ivs bs)) ht13
        have w38 := w37.same s38
        have hfv38 := hfv37.same s38
        have h38 := s38 _ _ h37
        have h38l := s38 _ _ h37l
        refine ⟨t13, 0 :: bs, rfl, SqL.of upd_same, Nat.succ_pos _, fun best hbest hbest' => ?_⟩
        generalize upd H37 t13 (.lst ([V.int 0] ++ ivs bs)) = H38 at *
        clear w36 w37 hfv36 hfv37 h36 h36l h36t h37 h37l h37t h37b s37 s38
        refine ⟨fun σ H' => σ = [some (.ref a), some (.ref d), some (.int (i : Nat)), some (.ref D), some (.ref la), some (.ref dl), some (.int pc), some (.int grow), some (.int more), some (.int wet), some (.int sz), some (.int kk), some (.ref fi), some fv, some (.ref D3), some (.int tick), some (.ref D4), some (.int best), v18, none, none] ∧
          W33 K C H' d l9 D dl la vs ps9 ∧ FoundV (dursOf ps9) sz grow wet H' fv ∧ H' D3 = some (.lst (ivs (lasts (dursOf ps9)))) ∧ H' D4 = some (.lst (ivs (lefts (dursOf ps9) sz grow wet))), ?_, ?_⟩
        · refine ⟨_, rfl, D3, _, _, _, rfl, rfl, SqL.of h38, atE (j := 59) (by decide), _, rfl, _, _, rfl, rfl, _, rfl, iteD (fun h0 => ?_) (fun _ => ⟨rfl, w38, hfv38, h38, h38l⟩)⟩
          have ok1 : FireOk 1 grow wet := ⟨by decide, by decide, ok.g0, ok.g1, ok.w0, ok.w1⟩
          refine ⟨_, rfl, _, rfl, _, rfl, _, rfl, la, ps9, grow, wet, tick, rfl, w38.L.same same_del, hV9, ok1, ti0, by omega, fun H39 n m s39 hn hb => ?_⟩
          have em : m = best := by
            refine hb.uniq ⟨?_, fun b hbn => ?_, ?_⟩
            · exact hbest' 0 (List.mem_cons_self ..)
            · refine hbest' _ (List.mem_cons_of_mem _ (b2 b ?_ ((hn b).mpr hbn)))
              rcases Nat.lt_or_ge b 60 with z | z
              · exact z
              · have c1 := (hn b).mpr hbn
                have c2 := lastE_le DB (b := 59) (c := b) (by omega)
                omega
            · rcases List.mem_cons.mp hbest with e | e
              · exact .inl e
              · obtain ⟨b, c1, c2, c3⟩ := b1 _ e
                exact .inr ⟨b, (hn b).mp c2, c3⟩
          subst em
          refine ⟨_, rfl, _, _, .int m, rfl, .int m, .int m, trivial, fun H40 s40 => ⟨_, rfl, iteF ⟨rfl, (w38.same s39).same s40, (hfv38.same s39).same s40, s40 _ _ (s39 _ _ h38), s40 _ _ (s39 _ _ h38l)⟩⟩⟩
        · rintro σ H41 ⟨rfl, w41, hfv41, h41, h41l⟩
          have atL : ∀ {j : Nat}, j < 60 → atI (ivs (lefts (dursOf ps9) sz grow wet)) ((j : Nat) : Int) = some (.int (leftB (dursOf ps9) sz grow wet j)) := fun hj => atI_nat (ivs_at (lefts_get hj))
          refine ⟨60, rfl, by decide, by decide, fun D7 hD7 => ?_⟩
          refine lc_it (walk_range0 (n := 60)) (fun i G => ∃ os : List Int, G = upd H41 D7 (.lst (ivs os)) ∧ os.length ≤ i ∧ (os = [] → ∀ j, j < i → 1 ≤ leftB (dursOf ps9) sz grow wet j) ∧ ∀ o r, os = o :: r → ∃ b : Nat, o = b ∧ b < i ∧ OutAt (dursOf ps9) sz grow wet b)
            ⟨[], rfl, Nat.le_refl _, fun _ j hj => absurd hj (by omega), fun o r e => by cases e⟩ (fun _ _ _ _ => trivial) ?_ ?_
          · rintro j x G G' hj ⟨os, rfl, ol, o1, o2⟩ ⟨rfl, rfl⟩
            have s7 := same_new (o := .lst (ivs os)) hD7
            refine ⟨rfl, _, rfl, _, rfl, D4, _, _, _, rfl, rfl, SqL.of (s7 _ _ h41l), atL hj, _, _, rfl, rfl, _, rfl, iteD (fun h0 => ?_) (fun h0 => ?_)⟩
            · refine ⟨_, rfl, _, upd_same, szl (by rw [ivs_len]; omega), os ++ [(j : Int)], ?_, by rw [List.length_append]; show _ + 1 ≤ _; omega, fun e => ?_, fun o r e => ?_⟩
              · rw [upd_upd, ivs_app]
                rfl
              · simp at e
              · cases os with
                | nil =>
                  have e1 : (j : Int) = o := (List.cons.inj e).1
                  exact ⟨j, e1.symm, by omega, h0, o1 rfl⟩
                | cons o' r' =>
                  have e1 : o' = o := (List.cons.inj e).1
                  obtain ⟨b, c1, c2, c3⟩ := o2 o' r' rfl
                  exact ⟨b, by omega, by omega, c3⟩
            · refine ⟨os, rfl, by omega, fun e i' hi' => ?_, fun o r e => ?_⟩
              · rcases Nat.lt_or_ge i' j with z | z
                · exact o1 e i' z
                · have : i' = j := by omega
                  subst this
                  omega
              · obtain ⟨b, c1, c2, c3⟩ := o2 o r e
                exact ⟨b, c1, by omega, c3⟩
          rintro G ⟨os, rfl, ol, o1, o2⟩
          have s42 := same_new (o := .lst (ivs os)) hD7
          have w42 := w41.same s42
          have hfv42 := hfv41.same s42
          have h42 := s42 _ _ h41
          have h42o : upd H41 D7 (.lst (ivs os)) D7 = some (.lst (ivs os)) := upd_same
          generalize upd H41 D7 (.lst (ivs os)) = H42 at *
          refine ⟨_, rfl, Nat.zero_le _, fun t14 ht14 => ?_⟩
          have s43 := same_new (o := .lst []) ht14
          refine ⟨_, _, dp_mk_lst (s43 _ _ h42o) (dps_ints _), dp_mk_lst upd_same .nil, shaped_ints _, by decide +kernel, _, rfl, ?_⟩
          have w43 := w42.same s43
          have hfv43 := hfv42.same s43
          have h43 := s43 _ _ h42
          have h43o := s43 _ _ h42o
          generalize upd H42 t14 (.lst []) = H43 at *
          rw [eqv_nilI]
          cases os with
          | nil => exact iteF ⟨l9, _, _, _, _, _, _, _, _, _, _, _, _, _, _, _, _, _, rfl, w43.hd, w43.src⟩
          | cons o r =>
            refine iteT ?_
            obtain ⟨b, rfl, hb60, ho⟩ := o2 o r rfl
            obtain ⟨t, rfl, ht⟩ : ∃ t, fv = .ref t ∧ H43 t = some (.tup [.int (b : Nat), .int (lastE (dursOf ps9) b)]) := by
              rcases hfv43 with ⟨_, hn⟩ | ⟨t, b', e1, ho', ht⟩
              · have := hn b
                have := ho.out
                omega
              · rw [ho.uniq ho']
                exact ⟨t, e1, ht⟩
            refine ⟨_, rfl, _, rfl, D7, _, _, _, rfl, rfl, SqL.of h43o, at_0, _, rfl, _, rfl, D7, _, _, _, rfl, rfl, SqL.of h43o, at_0, D3, _, _, _, rfl, rfl, SqL.of h43, atE hb60, (by show 2 ≤ sizeLine; decide), fun t15 ht15 => ?_⟩
            have s44 := same_new (o := .tup [.int (b : Nat), .int (lastE (dursOf ps9) b)]) ht15
            refine ⟨_, _, .tuple [.int (b : Nat), .int (lastE (dursOf ps9) b)], rfl, dp_mk_tup (s44 _ _ ht) (.cons (.int _) (.cons (.int _) .nil)), dp_mk_tup upd_same (.cons (.int _) (.cons (.int _) .nil)), ⟨(by show 2 ≤ 3000; decide), fun x hx => ?_⟩, fun H45 s45 => ⟨_, rfl, iteF ?_⟩⟩
            · rcases List.mem_cons.mp hx with rfl | hx
              · trivial
              · rw [List.mem_singleton.mp hx]
                trivial
            · have w45 := (w43.same s44).same s45
              exact ⟨l9, _, _, _, _, _, _, _, _, _, _, _, _, _, _, _, _, _, rfl, w45.hd, w45.src⟩
    · rintro σ H' ⟨l', v2, v3, v4, v5, v6, v7, v8, v9, v10, v11, v12, v13, v14, v15, v16, v17, v18, rfl, hd0, src0⟩
      exact k _
end
end Bk
/-! ### the head: what the top has left, by names -/
namespace Bk
open PySem PySem.Spec PyProof.Rows L2
structure MDef where
  adr : PySem.W.Frag → Addr
  name : Str
  qual : Str
  st : Stmt
def fnAt (K : PySem.W.Frag) (a : Addr) : He.FnW := match K.lookup a with
  | some ⟨_, _, .func fd, _⟩ => some (fd.name, fd.qualname, fd.params, fd.body, fd.scope, fd.globals, fd.closure, fd.builtins)
  | _ => none
def MDef.val (d : MDef) : He.FnW := some (d.name, d.qual, defArgs d.st, .stmts (defBody d.st), defScope d.st, mainGlobals, [], builtinsNs)
def MDef.ok (K : PySem.W.Frag) (d : MDef) : Bool := PySem.W.keepIn K (.ref (d.adr K)) && (match K.lookup (d.adr K) with
  | some ⟨_, _, .func fd, _⟩ => PySem.W.codeIn K fd.code d.qual && He.dflB K fd.defaults []
  | _ => false)
theorem MDef.fnP {K : PySem.W.Frag} {d : MDef} (e : fnAt K (d.adr K) = d.val) (c : d.ok K = true) : ∃ fd, FnP K d.name d.qual d.st (d.adr K) fd := by
  obtain ⟨kp, c2⟩ := He.ba c
  unfold fnAt at e
  cases q : K.lookup (d.adr K) with
  | none =>
    rw [q] at c2
    cases c2
  | some o =>
    obtain ⟨oc, od, dt, osl⟩ := o
    rw [q] at c2 e
    cases dt with
    | func fd =>
      obtain ⟨w1, w2, w3, w4, w5, w6, w7, w8, w9, w10, w11, w12, w13, w14, w15⟩ := fd
      have e2 : (some (w1, w2, w3, w4, w5, w6, w7, w15) : He.FnW) = some (d.name, d.qual, defArgs d.st, .stmts (defBody d.st), defScope d.st, mainGlobals, [], builtinsNs) := e
      simp only [Prod.mk.injEq, Option.some.injEq] at e2
      obtain ⟨q1, q2, q3, q4, q5, q6, q7, q8⟩ := e2
      subst q1 q2 q3 q4 q5 q6 q7 q8
      have c3 : (PySem.W.codeIn K w13 d.qual && He.dflB K w8 []) = true := c2
      obtain ⟨k1, k2⟩ := He.ba c3
      exact ⟨_, ⟨oc, od, w8, w9, w10, w11, w12, w13, w14, osl, rfl, q, k1, He.dflB_ok k2, He.kwdB_ok rfl⟩, kp⟩
    | _ => cases c2
def asM (g : Addr → Option Obj) : Nat → List Addr
  | 0 => [mainGlobals, cStatics]
  | n + 1 => He.growD g (asM g n)
abbrev AlM : Type := Bool × List He.FnW
def obsM (fs : List (PySem.W.Frag → Bool)) (fn : List MDef) (K : PySem.W.Frag) : AlM := ((fs.all fun f => f K) && fn.all fun d => d.ok K, fn.map fun d => fnAt K (d.adr K))
def valM (fn : List MDef) : AlM := (true, fn.map MDef.val)
def SaysM (fs : List (PySem.W.Frag → Bool)) (fn : List MDef) (K : PySem.W.Frag) : Prop := obsM fs fn K = valM fn
def obsMG (n : Nat) (fs : List (PySem.W.Frag → Bool)) (fn : List MDef) (g : Addr → Option Obj) : AlM := obsM fs fn (He.frG g (asM g n))
def hookM (n : Nat) (fs : List (PySem.W.Frag → Bool)) (fn : List MDef) : PySem.W.Hook where
  α := AlM
  obs := fun s => obsMG n fs fn s.heap.get?
  val := fun _ => valM fn
  says := fun _ h => ∃ K : PySem.W.Frag, K.In h ∧ SaysM fs fn K
  of := fun _ _ e => ⟨_, He.frG_in, e⟩
  keeps := fun _ _ _ ⟨K, hK, c⟩ k => ⟨K, PySem.W.Frag.In.keeps hK k, c⟩
theorem obsMG_eq {n : Nat} {fs : List (PySem.W.Frag → Bool)} {fn : List MDef} {g : Addr → Option Obj} {s : Shared} (h : ∀ a, g a = s.heap.get? a) : obsMG n fs fn g = (hookM n fs fn).obs s := by
  have e : g = s.heap.get? := funext h
  rw [e] <;> rfl
section
variable {fs : List (PySem.W.Frag → Bool)} {fn : List MDef} {K : PySem.W.Frag}
theorem SaysM.fact (c : SaysM fs fn K) (i : Nat) {f : PySem.W.Frag → Bool} (h : fs[i]? = some f := by rfl) : f K = true := by
  have c1 := (He.ba (show ((fs.all fun f => f K) && fn.all fun d => d.ok K) = true from congrArg (fun z : AlM => z.1) c)).1
  exact List.all_eq_true.mp c1 f (List.mem_of_getElem? h)
theorem SaysM.def_ (c : SaysM fs fn K) (i : Nat) {d : MDef} (h : fn[i]? = some d := by rfl) : ∃ fd, FnP K d.name d.qual d.st (d.adr K) fd := by
  have c2 := (He.ba (show ((fs.all fun f => f K) && fn.all fun d => d.ok K) = true from congrArg (fun z : AlM => z.1) c)).2
  have e : fn.map (fun d => fnAt K (d.adr K)) = fn.map MDef.val := congrArg (fun z : AlM => z.2) c
  have e2 : (fn.map fun d => fnAt K (d.adr K))[i]? = (fn.map MDef.val)[i]? := by rw [e]
  rw [List.getElem?_map, List.getElem?_map, h] at e2
  exact MDef.fnP (Option.some.inj e2) (List.all_eq_true.mp c2 d (List.mem_of_getElem? h))
end
/-! facts of classes -/
def propA (K : PySem.W.Frag) (C : Addr) (f : Str) : Addr := match PySem.W.recIn K (He.ma K C f) "property" with
  | some (.ref g :: _) => g
  | _ => 0
def creadB (K : PySem.W.Frag) (C : Addr) : Bool := PySem.W.readsIn K C (.type "type") && He.eqO (PySem.W.specialIn K (.ref C) "__getattribute__") (some (some (.builtin "type.__getattribute__")))
theorem creadB_ok {K : PySem.W.Frag} {C : Addr} (h : creadB K C = true) : ClX.CRead K C (.type "type") := by
  obtain ⟨h1, h2⟩ := He.ba h
  exact ⟨h1, He.eqO_ok h2⟩
def cvalB (K : PySem.W.Frag) (C : Addr) (f : Str) (v : V) : Bool := match PySem.W.findCls K (.ref C) (.type "type") f with
  | some (.val u) => He.relB v u
  | _ => false
theorem cvalB_ok {K : PySem.W.Frag} {C : Addr} {f : Str} {v : V} (h : cvalB K C f v = true) : ∃ u, ClX.CVal K C (.type "type") f v u := by
  unfold cvalB at h
  split at h
  · rename_i u e
    exact ⟨u, e, He.relB_ok h⟩
  · cases h
def propB (K : PySem.W.Frag) (C : Addr) (f : Str) : Bool := He.eqO (PySem.W.findIn K (.ref C) f) (some (some (.ref (He.ma K C f)))) && (He.eqO (PySem.W.specialIn K (.ref (He.ma K C f)) "__get__") (some (some (.builtin "property.__get__"))) &&
  (decide (PySem.W.takesIn K (.ref (He.ma K C f)) = some true) && (match PySem.W.recIn K (He.ma K C f) "property" with
  | some (.ref _ :: _) => true
  | _ => false)))
theorem propB_ok {K : PySem.W.Frag} {C : Addr} {f : Str} (h : propB K C f = true) : PropOf K C f (He.ma K C f) (propA K C f) := by
  obtain ⟨h1, h⟩ := He.ba h
  obtain ⟨h2, h⟩ := He.ba h
  obtain ⟨h3, h4⟩ := He.ba h
  refine ⟨He.eqO_ok h1, He.eqO_ok h2, of_decide_eq_true h3, ?_⟩
  unfold propA
  split at h4
  · rename_i g rest e
    rw [e]
    exact ⟨rest, rfl⟩
  · cases h4
theorem relB_glo {K : PySem.W.Frag} {h : Heap} {mg : Str → Option Value} (X : K.In h) (G : h.Ns mainGlobals mg) {x : Str} {i : Int} (c : (He.Fa.int x i).ok K = true) : ∃ u, mg x = some u ∧ RelV (.int i) u := by
  obtain ⟨t, e⟩ := He.int_ok X G c
  exact ⟨_, e, t, rfl⟩
theorem relB_gls {K : PySem.W.Frag} {h : Heap} {mg : Str → Option Value} (X : K.In h) (G : h.Ns mainGlobals mg) {x z : Str} (c : (He.Fa.str x z).ok K = true) : ∃ u, mg x = some u ∧ RelV (.str z) u := by
  obtain ⟨t, e⟩ := He.str_ok X G c
  exact ⟨_, e, t, rfl⟩
end Bk
namespace Bk
open PySem PySem.Spec PyProof.Rows L2
def callB (K : PySem.W.Frag) (C : Addr) : Bool := He.eqO (PySem.W.findIn K (.ref C) "__call__") (some (some (.ref (He.ma K C "__call__")))) && (PySem.W.isFn K (.ref (He.ma K C "__call__")) && PySem.W.fnIn K (He.ma K C "__call__"))
theorem callB_ok {K : PySem.W.Frag} {C : Addr} (h : callB K C = true) : StX.CallO K C (He.ma K C "__call__") := by
  obtain ⟨h1, h⟩ := He.ba h
  obtain ⟨h2, h3⟩ := He.ba h
  exact ⟨He.eqO_ok h1, h2, h3⟩
end Bk
/-! ### the end -/
namespace Bk
open PySem PySem.Spec PyProof.Rows L2
def md_law : MDef := ⟨fun K => He.ga K "law", "law", "law", s_law⟩
def md__law_random : MDef := ⟨fun K => He.ga K "_law_random", "_law_random", "_law_random", s__law_random⟩
def md__law_below : MDef := ⟨fun K => He.ga K "_law_below", "_law_below", "_law_below", s__law_below⟩
def md__law_people : MDef := ⟨fun K => He.ga K "_law_people", "_law_people", "_law_people", s__law_people⟩
def md__law_shuffled : MDef := ⟨fun K => He.ga K "_law_shuffled", "_law_shuffled", "_law_shuffled", s__law_shuffled⟩
def md__law_line : MDef := ⟨fun K => He.ga K "_law_line", "_law_line", "_law_line", s__law_line⟩
def md__law_words : MDef := ⟨fun K => He.ga K "_law_words", "_law_words", "_law_words", s__law_words⟩
def md_parse_line : MDef := ⟨fun K => He.ga K "parse_line", "parse_line", "parse_line", s_parse_line⟩
def md_is_name : MDef := ⟨fun K => He.ga K "is_name", "is_name", "is_name", s_is_name⟩
def md_is_number : MDef := ⟨fun K => He.ga K "is_number", "is_number", "is_number", s_is_number⟩
def md_Line___init__ : MDef := ⟨fun K => He.ma K (He.ga K "Line") "__init__", "__init__", "Line.__init__", s_Line___init__⟩
def md__law_durations : MDef := ⟨fun K => He.ga K "_law_durations", "_law_durations", "_law_durations", s__law_durations⟩
def md__law_pace : MDef := ⟨fun K => He.ga K "_law_pace", "_law_pace", "_law_pace", s__law_pace⟩
def md__law_ends : MDef := ⟨fun K => He.ga K "_law_ends", "_law_ends", "_law_ends", s__law_ends⟩
def md_Fire___init__ : MDef := ⟨fun K => He.ma K (He.ga K "Fire") "__init__", "__init__", "Fire.__init__", s_Fire___init__⟩
def md_Fire_left : MDef := ⟨fun K => He.ma K (He.ga K "Fire") "left", "left", "Fire.left", s_Fire_left⟩
def md_put_out : MDef := ⟨fun K => He.ga K "put_out", "put_out", "put_out", s_put_out⟩
def md_Course___init__ : MDef := ⟨fun K => He.ma K (He.ga K "Course") "__init__", "__init__", "Course.__init__", s_Course___init__⟩
def md_pace_of : MDef := ⟨fun K => He.ga K "pace_of", "pace_of", "pace_of", s_pace_of⟩
def md_first_ends : MDef := ⟨fun K => He.ga K "first_ends", "first_ends", "first_ends", s_first_ends⟩
def md_next_ends : MDef := ⟨fun K => He.ga K "next_ends", "next_ends", "next_ends", s_next_ends⟩
def md_Course_ends : MDef := ⟨fun K => He.ma K (He.ga K "Course") "ends", "ends", "Course.ends", s_Course_ends⟩
def md_steady_from : MDef := ⟨fun K => He.ga K "steady_from", "steady_from", "steady_from", s_steady_from⟩
def md_Line_durations : MDef := ⟨fun K => propA K (He.ga K "Line") "durations", "durations", "Line.durations", s_Line_durations⟩
def md_Line_pace : MDef := ⟨fun K => propA K (He.ga K "Line") "pace", "pace", "Line.pace", s_Line_pace⟩
def md_largest_fire : MDef := ⟨fun K => He.ga K "largest_fire", "largest_fire", "largest_fire", s_largest_fire⟩
def md_buckets_by : MDef := ⟨fun K => He.ga K "buckets_by", "buckets_by", "buckets_by", s_buckets_by⟩
def md_validate_number : MDef := ⟨fun K => He.ga K "validate_number", "validate_number", "validate_number", s_validate_number⟩
def md__law_is_out : MDef := ⟨fun K => He.ga K "_law_is_out", "_law_is_out", "_law_is_out", s__law_is_out⟩
def md_Line___call__ : MDef := ⟨fun K => He.ma K (He.ga K "Line") "__call__", "__call__", "Line.__call__", s_Line___call__⟩
def md_place_of : MDef := ⟨fun K => He.ga K "place_of", "place_of", "place_of", s_place_of⟩
def md_Line_names : MDef := ⟨fun K => propA K (He.ga K "Line") "names", "names", "Line.names", s_Line_names⟩
def md_ends_of : MDef := ⟨fun K => He.ga K "ends_of", "ends_of", "ends_of", s_ends_of⟩
def md__law_equal : MDef := ⟨fun K => He.ga K "_law_equal", "_law_equal", "_law_equal", s__law_equal⟩
def mdefs : List MDef := [md_law, md__law_random, md__law_below, md__law_people, md__law_shuffled, md__law_line, md__law_words, md_parse_line, md_is_name, md_is_number, md_Line___init__, md__law_durations, md__law_pace, md__law_ends, md_Fire___init__, md_Fire_left, md_put_out, md_Course___init__, md_pace_of, md_first_ends, md_next_ends, md_Course_ends, md_steady_from, md_Line_durations, md_Line_pace, md_largest_fire, md_buckets_by, md_validate_number, md__law_is_out, md_Line___call__, md_place_of, md_Line_names, md_ends_of, md__law_equal]
def mfacts : List (PySem.W.Frag → Bool) := [fun K => (He.Fa.free "TypeError").ok K,
  fun K => (He.Fa.free "ValueError").ok K,
  fun K => (He.Fa.free "abs").ok K,
  fun K => (He.Fa.free "all").ok K,
  fun K => (He.Fa.free "any").ok K,
  fun K => (He.Fa.free "bool").ok K,
  fun K => (He.Fa.free "classmethod").ok K,
  fun K => (He.Fa.free "enumerate").ok K,
  fun K => (He.Fa.free "int").ok K,
  fun K => (He.Fa.free "isinstance").ok K,
  fun K => (He.Fa.free "len").ok K,
  fun K => (He.Fa.free "list").ok K,
  fun K => (He.Fa.free "max").ok K,
  fun K => (He.Fa.free "min").ok K,
  fun K => (He.Fa.free "property").ok K,
  fun K => (He.Fa.free "range").ok K,
  fun K => (He.Fa.free "str").ok K,
  fun K => (He.Fa.free "sum").ok K,
  fun K => (He.Fa.free "tuple").ok K,
  fun K => (He.Fa.free "zip").ok K,
  fun K => (He.Fa.str "LETTERS" "abcdefghijklmnopqrstuvwxyz").ok K,
  fun K => (He.Fa.int "MAX_LETTERS" 8).ok K,
  fun K => (He.Fa.int "MAX_BUCKET" 1000000000000000000).ok K,
  fun K => (He.Fa.int "MAX_FIRE" 1000000000000000).ok K,
  fun K => (He.Fa.int "MAX_GROWTH" 1000000).ok K,
  fun K => (He.Fa.int "MAX_WATER" 1000000000).ok K,
  fun K => (He.Fa.str "DIGITS" "0123456789").ok K,
  fun K => (He.Fa.int "MAX_DIGITS" 4).ok K,
  fun K => (He.Fa.glo "Line").ok K,
  fun K => (He.Fa.cls "Line").ok K,
  fun K => (He.Fa.noat "Line" "crew").ok K,
  fun K => creadB K (He.ga K "Line"),
  fun K => cvalB K (He.ga K "Line") "MAX_PEOPLE" (.int 12),
  fun K => cvalB K (He.ga K "Line") "MAX_PACE" (.int 1000),
  fun K => (He.Fa.glo "_law_random").ok K,
  fun K => (He.Fa.glo "_law_below").ok K,
  fun K => (He.Fa.glo "_law_shuffled").ok K,
  fun K => (He.Fa.glo "_law_people").ok K,
  fun K => (He.Fa.glo "_law_words").ok K,
  fun K => (He.Fa.glo "is_name").ok K,
  fun K => (He.Fa.glo "is_number").ok K,
  fun K => (He.Fa.mkr "Line").ok K,
  fun K => (He.Fa.glo "parse_line").ok K,
  fun K => (He.Fa.glo "_law_line").ok K,
  fun K => (He.Fa.glo "_law_durations").ok K,
  fun K => (He.Fa.glo "_law_pace").ok K,
  fun K => (He.Fa.glo "_law_ends").ok K,
  fun K => (He.Fa.cls "Fire").ok K,
  fun K => (He.Fa.noat "Fire" "whole").ok K,
  fun K => (He.Fa.noat "Fire" "growth").ok K,
  fun K => (He.Fa.noat "Fire" "water").ok K,
  fun K => (He.Fa.mkr "Fire").ok K,
  fun K => (He.Fa.glo "Fire").ok K,
  fun K => (He.Fa.meth "Fire" "left").ok K,
  fun K => (He.Fa.cls "Course").ok K,
  fun K => (He.Fa.noat "Course" "step").ok K,
  fun K => (He.Fa.noat "Course" "early").ok K,
  fun K => (He.Fa.glo "pace_of").ok K,
  fun K => (He.Fa.glo "first_ends").ok K,
  fun K => (He.Fa.glo "next_ends").ok K,
  fun K => (He.Fa.mkr "Course").ok K,
  fun K => (He.Fa.glo "Course").ok K,
  fun K => (He.Fa.meth "Course" "ends").ok K,
  fun K => propB K (He.ga K "Line") "durations",
  fun K => (He.Fa.glo "steady_from").ok K,
  fun K => propB K (He.ga K "Line") "pace",
  fun K => (He.Fa.glo "put_out").ok K,
  fun K => (He.Fa.glo "validate_number").ok K,
  fun K => (He.Fa.glo "buckets_by").ok K,
  fun K => (He.Fa.glo "largest_fire").ok K,
  fun K => propB K (He.ga K "Line") "names",
  fun K => (He.Fa.glo "place_of").ok K,
  fun K => (He.Fa.glo "ends_of").ok K,
  fun K => callB K (He.ga K "Line"),
  fun K => (He.Fa.glo "_law_is_out").ok K,
  fun K => (He.Fa.glo "_law_equal").ok K,
  fun K => (He.Fa.glo "law").ok K]
theorem all_law {P : Program} {w : World} {K : PySem.W.Frag} {h : Heap} {mg : Str → Option Value} {f : Addr} (X : K.In h) (G : h.Ns mainGlobals mg) (hfa : mg ("law" : Str) = some (.ref f)) (c : SaysM mfacts mdefs K) :
    ∃ fd : FuncData, (∀ (s : Shared) (v : Value), BindsTo s fd ⟨[v], []⟩ [("_law_script", v)]) ∧ ∀ base : Heap, K.In base → base.Ns mainGlobals mg → FnOk P w K mg base CX0 7 f fd ["_law_script"] (spLaw K) := by
  obtain ⟨fd_law, F_law⟩ := c.def_ 0 (d := md_law) rfl
  have b_law : Binds K fd_law ["_law_script"] [] := F_law.bindsN fun _ _ _ _ _ _ us hl => match us, hl with | [_], _ => rfl
  obtain ⟨fd__law_random, F__law_random⟩ := c.def_ 1 (d := md__law_random) rfl
  have b__law_random : Binds K fd__law_random ["_law_script", "_law_salt"] [] := F__law_random.bindsN fun _ _ _ _ _ _ us hl => match us, hl with | [_, _], _ => rfl
  obtain ⟨fd__law_below, F__law_below⟩ := c.def_ 2 (d := md__law_below) rfl
  have b__law_below : Binds K fd__law_below ["_law_d", "_law_limit"] [] := F__law_below.bindsN fun _ _ _ _ _ _ us hl => match us, hl with | [_, _], _ => rfl
  obtain ⟨fd__law_people, F__law_people⟩ := c.def_ 3 (d := md__law_people) rfl
  have b__law_people : Binds K fd__law_people ["_law_d", "_law_most"] [] := F__law_people.bindsN fun _ _ _ _ _ _ us hl => match us, hl with | [_, _], _ => rfl
  obtain ⟨fd__law_shuffled, F__law_shuffled⟩ := c.def_ 4 (d := md__law_shuffled) rfl
  have b__law_shuffled : Binds K fd__law_shuffled ["_law_d", "_law_items"] [] := F__law_shuffled.bindsN fun _ _ _ _ _ _ us hl => match us, hl with | [_, _], _ => rfl
  obtain ⟨fd__law_line, F__law_line⟩ := c.def_ 5 (d := md__law_line) rfl
  have b__law_line : Binds K fd__law_line ["_law_people_here"] [] := F__law_line.bindsN fun _ _ _ _ _ _ us hl => match us, hl with | [_], _ => rfl
  obtain ⟨fd__law_words, F__law_words⟩ := c.def_ 6 (d := md__law_words) rfl
  have b__law_words : Binds K fd__law_words ["_law_people_here"] [] := F__law_words.bindsN fun _ _ _ _ _ _ us hl => match us, hl with | [_], _ => rfl
  obtain ⟨fd_parse_line, F_parse_line⟩ := c.def_ 7 (d := md_parse_line) rfl
  have b_parse_line : Binds K fd_parse_line ["text"] [] := F_parse_line.bindsN fun _ _ _ _ _ _ us hl => match us, hl with | [_], _ => rfl
  obtain ⟨fd_is_name, F_is_name⟩ := c.def_ 8 (d := md_is_name) rfl
  have b_is_name : Binds K fd_is_name ["name"] [] := F_is_name.bindsN fun _ _ _ _ _ _ us hl => match us, hl with | [_], _ => rfl
  obtain ⟨fd_is_number, F_is_number⟩ := c.def_ 9 (d := md_is_number) rfl
  have b_is_number : Binds K fd_is_number ["word", "longest"] [] := F_is_number.bindsN fun _ _ _ _ _ _ us hl => match us, hl with | [_, _], _ => rfl
  obtain ⟨fd_Line___init__, F_Line___init__⟩ := c.def_ 10 (d := md_Line___init__) rfl
  obtain ⟨fd__law_durations, F__law_durations⟩ := c.def_ 11 (d := md__law_durations) rfl
  have b__law_durations : Binds K fd__law_durations ["_law_paces"] [] := F__law_durations.bindsN fun _ _ _ _ _ _ us hl => match us, hl with | [_], _ => rfl
  obtain ⟨fd__law_pace, F__law_pace⟩ := c.def_ 12 (d := md__law_pace) rfl
  have b__law_pace : Binds K fd__law_pace ["_law_durations_here"] [] := F__law_pace.bindsN fun _ _ _ _ _ _ us hl => match us, hl with | [_], _ => rfl
  obtain ⟨fd__law_ends, F__law_ends⟩ := c.def_ 13 (d := md__law_ends) rfl
  have b__law_ends : Binds K fd__law_ends ["_law_rows"] [] := F__law_ends.bindsN fun _ _ _ _ _ _ us hl => match us, hl with | [_], _ => rfl
  obtain ⟨fd_Fire___init__, F_Fire___init__⟩ := c.def_ 14 (d := md_Fire___init__) rfl
  obtain ⟨fd_Fire_left, F_Fire_left⟩ := c.def_ 15 (d := md_Fire_left) rfl
  have b_Fire_left : Binds K fd_Fire_left ["self", "bucket", "tick"] [] := F_Fire_left.bindsN fun _ _ _ _ _ _ us hl => match us, hl with | [_, _, _], _ => rfl
  obtain ⟨fd_put_out, F_put_out⟩ := c.def_ 16 (d := md_put_out) rfl
  have b_put_out : Binds K fd_put_out ["line", "fire"] [] := F_put_out.bindsN fun _ _ _ _ _ _ us hl => match us, hl with | [_, _], _ => rfl
  obtain ⟨fd_Course___init__, F_Course___init__⟩ := c.def_ 17 (d := md_Course___init__) rfl
  have b_Course___init__ : Binds K fd_Course___init__ ["self", "durations"] [] := F_Course___init__.bindsN fun _ _ _ _ _ _ us hl => match us, hl with | [_, _], _ => rfl
  obtain ⟨fd_pace_of, F_pace_of⟩ := c.def_ 18 (d := md_pace_of) rfl
  have b_pace_of : Binds K fd_pace_of ["durations"] [] := F_pace_of.bindsN fun _ _ _ _ _ _ us hl => match us, hl with | [_], _ => rfl
  obtain ⟨fd_first_ends, F_first_ends⟩ := c.def_ 19 (d := md_first_ends) rfl
  have b_first_ends : Binds K fd_first_ends ["durations"] [] := F_first_ends.bindsN fun _ _ _ _ _ _ us hl => match us, hl with | [_], _ => rfl
  obtain ⟨fd_next_ends, F_next_ends⟩ := c.def_ 20 (d := md_next_ends) rfl
  have b_next_ends : Binds K fd_next_ends ["durations", "ends"] [] := F_next_ends.bindsN fun _ _ _ _ _ _ us hl => match us, hl with | [_, _], _ => rfl
  obtain ⟨fd_Course_ends, F_Course_ends⟩ := c.def_ 21 (d := md_Course_ends) rfl
  have b_Course_ends : Binds K fd_Course_ends ["self", "bucket"] [] := F_Course_ends.bindsN fun _ _ _ _ _ _ us hl => match us, hl with | [_, _], _ => rfl
  obtain ⟨fd_steady_from, F_steady_from⟩ := c.def_ 22 (d := md_steady_from) rfl
  have b_steady_from : Binds K fd_steady_from ["line"] [] := F_steady_from.bindsN fun _ _ _ _ _ _ us hl => match us, hl with | [_], _ => rfl
  obtain ⟨fd_Line_durations, F_Line_durations⟩ := c.def_ 23 (d := md_Line_durations) rfl
  have b_Line_durations : Binds K fd_Line_durations ["self"] [] := F_Line_durations.bindsN fun _ _ _ _ _ _ us hl => match us, hl with | [_], _ => rfl
  obtain ⟨fd_Line_pace, F_Line_pace⟩ := c.def_ 24 (d := md_Line_pace) rfl
  have b_Line_pace : Binds K fd_Line_pace ["self"] [] := F_Line_pace.bindsN fun _ _ _ _ _ _ us hl => match us, hl with | [_], _ => rfl
  obtain ⟨fd_largest_fire, F_largest_fire⟩ := c.def_ 25 (d := md_largest_fire) rfl
  have b_largest_fire : Binds K fd_largest_fire ["line", "growth", "water", "tick"] [] := F_largest_fire.bindsN fun _ _ _ _ _ _ us hl => match us, hl with | [_, _, _, _], _ => rfl
  obtain ⟨fd_buckets_by, F_buckets_by⟩ := c.def_ 26 (d := md_buckets_by) rfl
  have b_buckets_by : Binds K fd_buckets_by ["line", "tick"] [] := F_buckets_by.bindsN fun _ _ _ _ _ _ us hl => match us, hl with | [_, _], _ => rfl
  obtain ⟨fd_validate_number, F_validate_number⟩ := c.def_ 27 (d := md_validate_number) rfl
  have b_validate_number : Binds K fd_validate_number ["number", "smallest", "largest"] [] := F_validate_number.bindsN fun _ _ _ _ _ _ us hl => match us, hl with | [_, _, _], _ => rfl
  obtain ⟨fd__law_is_out, F__law_is_out⟩ := c.def_ 28 (d := md__law_is_out) rfl
  have b__law_is_out : Binds K fd__law_is_out ["_law_line_here", "_law_name", "_law_size", "_law_grow", "_law_wet"] [] := F__law_is_out.bindsN fun _ _ _ _ _ _ us hl => match us, hl with | [_, _, _, _, _], _ => rfl
  obtain ⟨fd_Line___call__, F_Line___call__⟩ := c.def_ 29 (d := md_Line___call__) rfl
  have b_Line___call__ : Binds K fd_Line___call__ ["self", "bucket", "name"] [] := F_Line___call__.bindsN fun _ _ _ _ _ _ us hl => match us, hl with | [_, _, _], _ => rfl
  obtain ⟨fd_place_of, F_place_of⟩ := c.def_ 30 (d := md_place_of) rfl
  have b_place_of : Binds K fd_place_of ["line", "name"] [] := F_place_of.bindsN fun _ _ _ _ _ _ us hl => match us, hl with | [_, _], _ => rfl
  obtain ⟨fd_Line_names, F_Line_names⟩ := c.def_ 31 (d := md_Line_names) rfl
  have b_Line_names : Binds K fd_Line_names ["self"] [] := F_Line_names.bindsN fun _ _ _ _ _ _ us hl => match us, hl with | [_], _ => rfl
  obtain ⟨fd_ends_of, F_ends_of⟩ := c.def_ 32 (d := md_ends_of) rfl
  have b_ends_of : Binds K fd_ends_of ["durations", "bucket"] [] := F_ends_of.bindsN fun _ _ _ _ _ _ us hl => match us, hl with | [_, _], _ => rfl
  obtain ⟨fd__law_equal, F__law_equal⟩ := c.def_ 33 (d := md__law_equal) rfl
  have b__law_equal : Binds K fd__law_equal ["_law_actual", "_law_expected"] [] := F__law_equal.bindsN fun _ _ _ _ _ _ us hl => match us, hl with | [_, _], _ => rfl
  have T : Tx mg := ⟨He.free_ok X G (c.fact 0 rfl), He.free_ok X G (c.fact 1 rfl), He.free_ok X G (c.fact 2 rfl), He.free_ok X G (c.fact 3 rfl), He.free_ok X G (c.fact 4 rfl), He.free_ok X G (c.fact 5 rfl), He.free_ok X G (c.fact 6 rfl), He.free_ok X G (c.fact 7 rfl), He.free_ok X G (c.fact 8 rfl), He.free_ok X G (c.fact 9 rfl), He.free_ok X G (c.fact 10 rfl), He.free_ok X G (c.fact 11 rfl), He.free_ok X G (c.fact 12 rfl), He.free_ok X G (c.fact 13 rfl), He.free_ok X G (c.fact 14 rfl), He.free_ok X G (c.fact 15 rfl), He.free_ok X G (c.fact 16 rfl), He.free_ok X G (c.fact 17 rfl), He.free_ok X G (c.fact 18 rfl), He.free_ok X G (c.fact 19 rfl), relB_gls X G (c.fact 20 rfl), relB_glo X G (c.fact 21 rfl), relB_glo X G (c.fact 22 rfl), relB_glo X G (c.fact 23 rfl), relB_glo X G (c.fact 24 rfl), relB_glo X G (c.fact 25 rfl), relB_gls X G (c.fact 26 rfl), relB_glo X G (c.fact 27 rfl)⟩
  have e := hfa.symm.trans (He.glo_ok X G (c.fact 76 rfl))
  cases e
  refine ⟨fd_law, fun s v => FunD.bindsA (ps := ["_law_script"]) F_law (fun _ _ _ _ _ _ us hl => match us, hl with | [_], _ => rfl) s [v] rfl, fun base _ _ => ?_⟩
  have L1 : LineT K mg (He.ga K "Line") := ⟨⟨_, (He.glo_ok X G (c.fact 28 rfl)), rfl⟩, He.cls_ok (c.fact 29 rfl), He.noat_ok (c.fact 30 rfl), .type "type", creadB_ok (c.fact 31 rfl), cvalB_ok (c.fact 32 rfl), cvalB_ok (c.fact 33 rfl)⟩
  have c2 : C8.Cal P w K mg base 1 "_law_random" (spRandom K) [] := ⟨_, _, _, _, (ok_random F__law_random T), (He.glo_ok X G (c.fact 34 rfl)), F__law_random.kp, b__law_random, .nil⟩
  have c3 : C8.Cal P w K mg base 1 "_law_below" spBelow [] := ⟨_, _, _, _, (ok_below F__law_below T), (He.glo_ok X G (c.fact 35 rfl)), F__law_below.kp, b__law_below, .nil⟩
  have c4 : C8.Cal P w K mg base 2 "_law_shuffled" (spShuf K) [] := ⟨_, _, _, _, (ok_shuf F__law_shuffled T c3), (He.glo_ok X G (c.fact 36 rfl)), F__law_shuffled.kp, b__law_shuffled, .nil⟩
  have c5 : C8.Cal P w K mg base 3 "_law_people" (spPeople K) [] := ⟨_, _, _, _, (ok_people F__law_people T c3 c4), (He.glo_ok X G (c.fact 37 rfl)), F__law_people.kp, b__law_people, .nil⟩
  have c6 : C8.Cal P w K mg base 1 "_law_words" (spWords K) [] := ⟨_, _, _, _, (ok_words F__law_words T), (He.glo_ok X G (c.fact 38 rfl)), F__law_words.kp, b__law_words, .nil⟩
  have c7 : C8.Cal P w K mg base 1 "is_name" spIsName [] := ⟨_, _, _, _, (ok_is_name F_is_name T), (He.glo_ok X G (c.fact 39 rfl)), F_is_name.kp, b_is_name, .nil⟩
  have c8 : C8.Cal P w K mg base 1 "is_number" spIsNum [] := ⟨_, _, _, _, (ok_is_number F_is_number T), (He.glo_ok X G (c.fact 40 rfl)), F_is_number.kp, b_is_number, .nil⟩
  have k9 : MkL P w K mg base (He.ga K "Line") := ⟨_, He.mkr_ok (c.fact 41 rfl), (ok_LineInit F_Line___init__ T L1 c7), (He.glo_ok X G (c.fact 28 rfl))⟩
  have c10 : C8.Cal P w K mg base 4 "parse_line" (spParse K (He.ga K "Line")) [] := ⟨_, _, _, _, (ok_parse F_parse_line T c7 c8 k9), (He.glo_ok X G (c.fact 42 rfl)), F_parse_line.kp, b_parse_line, .nil⟩
  have c11 : C8.Cal P w K mg base 5 "_law_line" (spLawLine K (He.ga K "Line")) [] := ⟨_, _, _, _, (ok_law_line F__law_line c6 c10), (He.glo_ok X G (c.fact 43 rfl)), F__law_line.kp, b__law_line, .nil⟩
  have c12 : C8.Cal P w K mg base 1 "_law_durations" (spDursL K) [] := ⟨_, _, _, _, (ok_dursL F__law_durations T), (He.glo_ok X G (c.fact 44 rfl)), F__law_durations.kp, b__law_durations, .nil⟩
  have c13 : C8.Cal P w K mg base 1 "_law_pace" (spPaceLL K) [] := ⟨_, _, _, _, (ok_paceL F__law_pace T), (He.glo_ok X G (c.fact 45 rfl)), F__law_pace.kp, b__law_pace, .nil⟩
  have c14 : C8.Cal P w K mg base 1 "_law_ends" (spEndsL K) [] := ⟨_, _, _, _, (ok_endsL F__law_ends T), (He.glo_ok X G (c.fact 46 rfl)), F__law_ends.kp, b__law_ends, .nil⟩
  have L15 : FirT K (He.ga K "Fire") := ⟨He.cls_ok (c.fact 47 rfl), He.noat_ok (c.fact 48 rfl), He.noat_ok (c.fact 49 rfl), He.noat_ok (c.fact 50 rfl)⟩
  have k16 : MakK P w K mg base 1 "Fire" (He.ga K "Fire") 1 ["growth", "water"] (spFireB (He.ga K "Fire")) := ⟨⟨_, _, _, He.mkr_ok (c.fact 51 rfl), (ok_fireInit F_Fire___init__ T L15), (He.glo_ok X G (c.fact 52 rfl)), FnP_kb 2 ["growth", "water"] F_Fire___init__ fun _ _ _ _ _ _ us ws h1 h2 => match us, ws, h1, h2 with | [_, _], [_, _], _, _ => rfl⟩⟩
  have m17 : C8.Met P w K mg base 1 (He.ga K "Fire") "left" (spLeft (He.ga K "Fire")) [] := ⟨_, _, _, _, He.cls_ok (c.fact 47 rfl), He.meth_ok (c.fact 53 rfl), (ok_left F_Fire_left T L15), b_Fire_left, .nil⟩
  have L18 : CouT K (He.ga K "Course") := ⟨He.cls_ok (c.fact 54 rfl), He.noat_ok (c.fact 55 rfl), He.noat_ok (c.fact 56 rfl)⟩
  have c19 : C8.Cal P w K mg base 1 "pace_of" (spPace K) [] := ⟨_, _, _, _, (ok_pace F_pace_of T), (He.glo_ok X G (c.fact 57 rfl)), F_pace_of.kp, b_pace_of, .nil⟩
  have c20 : C8.Cal P w K mg base 1 "first_ends" (spFirst K) [] := ⟨_, _, _, _, (ok_first F_first_ends T), (He.glo_ok X G (c.fact 58 rfl)), F_first_ends.kp, b_first_ends, .nil⟩
  have c21 : C8.Cal P w K mg base 1 "next_ends" (spNext K) [] := ⟨_, _, _, _, (ok_next F_next_ends T), (He.glo_ok X G (c.fact 59 rfl)), F_next_ends.kp, b_next_ends, .nil⟩
  have k22 : C8.Mak P w K mg base 2 "Course" (He.ga K "Course") (spCouB K (He.ga K "Course")) [] := ⟨_, _, _, _, He.mkr_ok (c.fact 60 rfl), (ok_couInit F_Course___init__ T L18 c19 c20 c21), (He.glo_ok X G (c.fact 61 rfl)), b_Course___init__, .nil⟩
  have m23 : C8.Met P w K mg base 1 (He.ga K "Course") "ends" (spCEnds (He.ga K "Course")) [] := ⟨_, _, _, _, He.cls_ok (c.fact 54 rfl), He.meth_ok (c.fact 62 rfl), (ok_couEnds F_Course_ends T L18), b_Course_ends, .nil⟩
  have p24 : PropC P w K mg base 1 (He.ga K "Line") "durations" (spDur K (He.ga K "Line")) := ⟨_, _, _, propB_ok (c.fact 63 rfl), (ok_durs F_Line_durations T L1), b_Line_durations⟩
  have c25 : C8.Cal P w K mg base 4 "steady_from" (spSteady K (He.ga K "Line")) [] := ⟨_, _, _, _, (ok_steady F_steady_from T L1 L18 k22 p24), (He.glo_ok X G (c.fact 64 rfl)), F_steady_from.kp, b_steady_from, .nil⟩
  have p26 : PropC P w K mg base 3 (He.ga K "Line") "pace" (spLPace K (He.ga K "Line")) := ⟨_, _, _, propB_ok (c.fact 65 rfl), (ok_lpace F_Line_pace T L1 c19 p24), b_Line_pace⟩
  have c27 : C8.Cal P w K mg base 5 "put_out" (spPut K (He.ga K "Line") (He.ga K "Fire")) [] := ⟨_, _, _, _, (ok_put F_put_out T L1 L15 k22 m23 m17 c25 p24 p26), (He.glo_ok X G (c.fact 66 rfl)), F_put_out.kp, b_put_out, .nil⟩
  have c28 : C8.Cal P w K mg base 1 "validate_number" spVal [] := ⟨_, _, _, _, (ok_val F_validate_number), (He.glo_ok X G (c.fact 67 rfl)), F_validate_number.kp, b_validate_number, .nil⟩
  have c29 : C8.Cal P w K mg base 4 "buckets_by" (spBy K (He.ga K "Line")) [] := ⟨_, _, _, _, (ok_by F_buckets_by T L1 c28 k22 m23 p24), (He.glo_ok X G (c.fact 68 rfl)), F_buckets_by.kp, b_buckets_by, .nil⟩
  have c30 : C8.Cal P w K mg base 5 "largest_fire" (spLarge K (He.ga K "Line")) [] := ⟨_, _, _, _, (ok_large F_largest_fire T L1 L15 k16 k22 m23 m17 c25 c29 p24), (He.glo_ok X G (c.fact 69 rfl)), F_largest_fire.kp, b_largest_fire, .nil⟩
  have p31 : PropC P w K mg base 1 (He.ga K "Line") "names" (spNames K (He.ga K "Line")) := ⟨_, _, _, propB_ok (c.fact 70 rfl), (ok_names F_Line_names T L1), b_Line_names⟩
  have c32 : C8.Cal P w K mg base 3 "place_of" (spPlace K (He.ga K "Line")) [] := ⟨_, _, _, _, (ok_place F_place_of T L1 p31), (He.glo_ok X G (c.fact 71 rfl)), F_place_of.kp, b_place_of, .nil⟩
  have c33 : C8.Cal P w K mg base 4 "ends_of" (spEnds K) [] := ⟨_, _, _, _, (ok_ends F_ends_of k22 m23), (He.glo_ok X G (c.fact 72 rfl)), F_ends_of.kp, b_ends_of, .nil⟩
  have o34 : CallC P w K mg base 5 (He.ga K "Line") (spCallL K (He.ga K "Line")) := ⟨_, callB_ok (c.fact 73 rfl), (FnOk.raw (ok_call F_Line___call__ T L1 c28 c32 c33 p24) b_Line___call__ .nil).imp fun vs H Q E z => by rw [List.append_nil]; exact z⟩
  have c35 : C8.Cal P w K mg base 6 "_law_is_out" (spIsOut K (He.ga K "Line")) [] := ⟨_, _, _, _, (ok_isOut F__law_is_out T L1 k16 m17 c27 c30 o34), (He.glo_ok X G (c.fact 74 rfl)), F__law_is_out.kp, b__law_is_out, .nil⟩
  have c36 : C8.Cal P w K mg base 4 "_law_equal" (spEq K 3) [] := ok_equal F__law_equal T (He.glo_ok X G (c.fact 75 rfl)) b__law_equal 3
  exact ok_law F_law T L1 c2 c3 c5 c11 c12 c13 c14 k16 m17 c27 c30 c35 c36
def nm0 : List PySem.Str := ["_wall", "LineError", "InvalidLine", "UnknownPerson", "InvalidNumber", "InvalidFire", "InvalidText", "LETTERS", "MAX_LETTERS", "MAX_BUCKET", "is_name", "validate_number", "Line", "place_of", "pace_of", "first_ends", "next_ends", "Course", "ends_of", "steady_from", "buckets_by", "MAX_FIRE", "MAX_GROWTH", "MAX_WATER", "Fire", "put_out", "largest_fire", "DIGITS", "MAX_DIGITS", "is_number"]
def nm1 : List PySem.Str := ["parse_line", "_law_random", "_law_below", "_law_shuffled", "_law_people", "_law_words", "_law_line", "_law_durations", "_law_pace", "_law_is_out", "_law_ends", "_law_equal"]
def names : List PySem.Str := nm0 ++ nm1
abbrev R : PySem.W.OpenRow := PySem.W.OpenLaw.row PySem.Challenge.rw_bucketline_k33_whole_fires
abbrev hk : PySem.W.Hook := hookM 7 mfacts mdefs
def ob (s : PySem.W.SharedT) : AlM := obsMG 7 mfacts mdefs (HandSHeadRun.getT s)
theorem ob_eq (s : PySem.W.SharedT) : ob s = hk.obs s.abs := obsMG_eq (HandSHeadRun.getT_eq s)
set_option maxHeartbeats 0 in
theorem run (w : World) : HandSHeadRun.RunEq R (PySem.W.view R.prog [47]) hk ob 4000 names w := by
  intro os
  kernel_rfl
end Bk
open PySem PySem.W PySem.Calls PyProof.Rows
set_option maxHeartbeats 0 in
theorem PySem.Challenge.cw_bucketline_k33_whole_fires_holds : PySem.Challenge.rw_bucketline_k33_whole_fires.Holds := by
  w_on; o_law
  refine HandSHeadRun.head_any (r := OpenLaw.row PySem.Challenge.rw_bucketline_k33_whole_fires) (q := view (OpenLaw.row PySem.Challenge.rw_bucketline_k33_whole_fires).prog [47]) (H := Bk.hk) (ob := Bk.ob) (M := 4000) (loose := Bk.names) (d := HandSHeadRun.topDef (OpenLaw.row PySem.Challenge.rw_bucketline_k33_whole_fires).prog 47) (kwd := []) Bk.ob_eq
    (by kernel_rfl) (fun s => by kernel_rfl) Bk.run (by kernel_rfl) (by kernel_rfl) (by kernel_rfl) (by rfl) (by first | assumption | decide +kernel) (by decide +kernel) ⟨rfl, rfl, rfl, rfl, rfl, by decide +kernel⟩ ?hw ?hc
  case hw => w_witness2
  case hc =>
    refine L2.walk_ofE (l := PySem.Challenge.rw_bucketline_k33_whole_fires) (n := 63) (k := 7) (x := "_law_script") (CX := L2.CX0) rfl (by decide) (by kernel_rfl) ⟨rfl, by decide, by decide⟩ ?F (fun _ _ _ _ z => z)
    intro w mg fa h Y G hmg0
    obtain ⟨K, KX, c⟩ := Y
    have hmg : mg ("law" : PySem.Str) = some (.ref fa) := by
      have e : (HandSHeadRun.topDef (OpenLaw.row PySem.Challenge.rw_bucketline_k33_whole_fires).prog 47).name = ("law" : PySem.Str) := by kernel_rfl
      rw [← e]
      exact hmg0
    obtain ⟨fd, hb, hF⟩ := Bk.all_law (P := (PySem.Challenge.rw_bucketline_k33_whole_fires).prog) (w := w) KX G hmg c
    exact ⟨K, fd, Bk.spLaw K, KX, hb, fun H a ns hl _ hS => ⟨a, ns, rfl, hS, hl, fun _ => rfl⟩, hF⟩
