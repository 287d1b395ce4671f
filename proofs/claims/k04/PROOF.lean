import PyProof.Rows.All
import Wide.All
import OpenK.AllK
import Wide.FinOn
import HandS.ForMost
import HandS.IsInst
import HandS.Defaults
import HandS.FStr
import HandS.StrMore
import HandS.Flow
import HandS.More
import HandS.Walk
import HandS.Style
import PySem.Challenge.RW_nightpaper_k04_marks_of_rows
set_option Elab.async false
set_option linter.all false
set_option maxRecDepth 100000
set_option maxHeartbeats 4000000
namespace Np
open PySem L2

/-! ### a def as it is called -/
structure OkF (P : Program) (w : World) (K : PySem.W.Frag) (mg : Str → Option Value) (base : Heap) (CX : CXT) (k : Nat) (x : Str) (ps : List Str) (sp : Sp) (f : Addr) (fd : FuncData) : Prop where
  ok : FnOk P w K mg base CX k f fd ps sp
  m : mg x = some (.ref f)
  kp : PySem.W.keepIn K (.ref f) = true

def Glb (mg : Str → Option Value) (x : Str) (v : V) : Prop := ∃ u, mg x = some u ∧ RelV v u

section
variable {X : Cx} {k n : Nat} {f : Addr} {fd : FuncData} {ps ks : List Str} {sp : Sp} {x : Str} {p pos : Pos} {e : Expr} {es : List Expr} {kws : List Keyword} {t tk : TA} {v : V}
theorem pe_g (h : Glb X.mg x v) (hg : Gl X x := by rfl) (hd : (x == ("__debug__" : Str)) = false := by decide) : PE X (.Name x pos) (tC v) := by
  obtain ⟨u, hm, r⟩ := h
  exact pe_glob hg hm r hd
/-- f(e, ..), no defaults -/
theorem pe_f (O : OkF X.prog X.w X.K X.mg X.base CX0 k x ps sp f fd) (b : Binds X.K fd ps []) (hr : Room k X.A) (hx : Passes CX0 X E0) (ha : PA X (e :: es) t) (hg : Gl X x := by rfl)
    (hdb : (x == ("__debug__" : Str)) = false := by decide) (he : starEach (e :: es) X.env = (false, eval e X.env) :: starEach es X.env := by rfl) (hpl : (backTo pos (starEach es X.env)).any (·.1) = false := by rfl) :
    PE X (.Call (.Name x p) (e :: es) [] pos) (tCall sp [] E0 t) := pe_call O.ok hr hg O.m O.kp b .nil hx ha hdb he hpl
theorem pe_f0 (O : OkF X.prog X.w X.K X.mg X.base CX0 k x ps sp f fd) (b : Binds X.K fd ps []) (hr : Room k X.A) (hx : Passes CX0 X E0) (hg : Gl X x := by rfl)
    (hdb : (x == ("__debug__" : Str)) = false := by decide) : PE X (.Call (.Name x p) [] [] pos) (tCall sp [] E0 tNil) := pe_call0 O.ok hr hg O.m O.kp b .nil hx hdb
/-- f(e, ..), the rest by defaults -/
theorem pe_fD {dvs : List V} (O : OkF X.prog X.w X.K X.mg X.base CX0 k x ps sp f fd) (b : ∃ ds, Vals dvs ds ∧ Binds X.K fd ps ds) (hr : Room k X.A) (hx : Passes CX0 X E0) (ha : PA X (e :: es) t) (hg : Gl X x := by rfl)
    (hdb : (x == ("__debug__" : Str)) = false := by decide) (he : starEach (e :: es) X.env = (false, eval e X.env) :: starEach es X.env := by rfl) (hpl : (backTo pos (starEach es X.env)).any (·.1) = false := by rfl) :
    PE X (.Call (.Name x p) (e :: es) [] pos) (tCall sp dvs E0 t) := by
  obtain ⟨ds, hv, hb⟩ := b
  exact pe_call O.ok hr hg O.m O.kp hb hv hx ha hdb he hpl
def KB (K : PySem.W.Frag) (fd : FuncData) (ps : List Str) (n : Nat) (ks : List Str) (gV : List V → List V → List V) : Prop := ∃ g, KBn K fd ps n ks g gV
theorem pe_fK {gV : List V → List V → List V} (O : OkF X.prog X.w X.K X.mg X.base CX0 k x ps sp f fd) (b : KB X.K fd ps n ks gV) (hr : Room k X.A) (hx : Passes CX0 X E0)
    (ha : PA X (e :: es) t) (hkw : PK X kws tk) (hg : Gl X x := by rfl) (hall : (backToKw pos (keywordEach kws X.env)).all (·.1.isSome) = true := by rfl) (hks : (backToKw pos (keywordEach kws X.env)).filterMap (·.1) = ks := by rfl)
    (hdb : (x == ("__debug__" : Str)) = false := by decide) (he : starEach (e :: es) X.env = (false, eval e X.env) :: starEach es X.env := by rfl)
    (hpl : ((backTo pos (starEach (e :: es) X.env)).any (·.1) || (backToKw pos (keywordEach kws X.env)).any (·.1.isNone)) = false := by rfl) :
    PE X (.Call (.Name x p) (e :: es) kws pos) (tCallN n ks.length sp gV E0 t tk) := by
  obtain ⟨g, hb⟩ := b
  exact pe_callN O.ok hr hg O.m O.kp hb hx ha hkw hall hks hdb he hpl
theorem pe_fK0 {gV : List V → List V → List V} (O : OkF X.prog X.w X.K X.mg X.base CX0 k x ps sp f fd) (b : KB X.K fd ps 0 ks gV) (hr : Room k X.A) (hx : Passes CX0 X E0)
    (hkw : PK X kws tk) (hg : Gl X x := by rfl) (hall : (backToKw pos (keywordEach kws X.env)).all (·.1.isSome) = true := by rfl) (hks : (backToKw pos (keywordEach kws X.env)).filterMap (·.1) = ks := by rfl)
    (hdb : (x == ("__debug__" : Str)) = false := by decide)
    (hpl : ((backTo pos (starEach [] X.env)).any (·.1) || (backToKw pos (keywordEach kws X.env)).any (·.1.isNone)) = false := by rfl) :
    PE X (.Call (.Name x p) [] kws pos) (tCallN 0 ks.length sp gV E0 tNil tk) := by
  obtain ⟨g, hb⟩ := b
  refine ⟨fun pins s σ H Q I h => ?_⟩
  refine wpAny_Call_Name_kw (ld_glob I hg O.m ?_ hdb)
  refine PySem.W.callWith_KW0 (h₀ := X.base) I.ok.mod.kin O.kp hall ?_ hpl
  refine L2.thn (hkw.run pos pins s σ H _ I h) fun ws s2 ⟨zs, H2, I2, rz, l1, l2, q2⟩ => ⟨I2.kIn, ?_⟩
  rw [hks]
  exact run_fnN (us := []) (vs := []) O.ok hr hb hx I2 .nil rz l1 l2 q2
end
theorem Fun.kb {K : PySem.W.Frag} {x qual : Str} {st : Stmt} {f : Addr} {fd : FuncData} {ps : List Str} (F : Fun K x qual st f fd) (n : Nat) (ks : List Str) (g : {α : Type} → List α → List α → List α)
    (hrel : ∀ {vs zs : List V} {us ws : List Value}, Vals vs us → Vals zs ws → Vals (g vs zs) (g us ws))
    (h : ∀ (kV doc pm : Value) (an : Option Addr) (cdv ct : Value) (us ws : List Value), us.length = n → ws.length = ks.length → bindArgs (PySem.W.fnOf x qual (defArgs st) (defBody st) (defScope st) .none kV doc pm an cdv ct) ⟨us, ks.zip ws⟩ = pure (ps.zip (g us ws))) : KB K fd ps n ks g := by
  obtain ⟨oc, od, kV, doc, pm, an, cdv, ct, osl, rfl, lk, hcd⟩ := F.ex
  exact ⟨fun us ws => g us ws, ⟨fun s us ws X l1 l2 => .of_eq (h kV doc pm an cdv ct us ws l1 l2), fun r1 r2 => hrel r1 r2⟩⟩

/-! ### heaps: what stays -/
theorem same_new {H : Hp} {p : Addr} {o : HO} (h : H p = none) : Same H (upd H p o) := fun a u e => by
  rw [upd_ne (ne_of_none e h)]
  exact e
theorem same_mut {G H : Hp} {p : Addr} {o : HO} (e : Same G H) (h : G p = none) : Same G (upd H p o) := fun a u ha => by
  rw [upd_ne (ne_of_none ha h)]
  exact e a u ha
theorem same_both {G H : Hp} {p : Addr} {o : HO} (e : Same G H) : Same (upd G p o) (upd H p o) := fun a u ha => by
  by_cases hp : a = p
  · subst hp
    rw [upd_same] at ha
    rw [upd_same]
    exact ha
  · rw [upd_ne hp] at ha
    rw [upd_ne hp]
    exact e a u ha

/-! ### list(text) -/
theorem call_listS {X : Cx} (hc : X.calm = true) : CallR X (.type "list") (fun xs H Q => ∃ z : Str, xs = [.str z] ∧ z.length ≤ sizeLine ∧ ∀ q, H q = none → Q (.ref q) (upd H q (.lst (z.cps.toList.map fun c => V.str ⟨#[c]⟩)))) := by
  intro pins s σ H xs us Q I r h
  obtain ⟨z, rfl, hz, q⟩ := h
  obtain ⟨u, rfl, t, rfl⟩ := vals1 r
  refine PySem.call_list_str (I.ok.hd hc) z t (fun h' tk acc c' hk e hi => ?_) hz
  refine ⟨.ref s.heap.objs.size, upd H s.heap.objs.size (.lst (z.cps.toList.map fun c => V.str ⟨#[c]⟩)), I.laid hk (Nat.le_refl _) ⟨by rw [List.length_map, Array.length_toList]; exact hz, acc.toList, c', ?_, by rw [Array.toArray_toList]; exact e⟩, rfl, q _ (I.hok.fresh (Nat.le_refl _))⟩
  refine vals_of_idx _ _ (by rw [List.length_map, Array.length_toList, Array.length_toList]; exact hi.1) fun j u hj => ?_
  obtain ⟨c, t', hc, rfl⟩ := hi.2 j u (by rw [← Array.getElem?_toList]; exact hj)
  exact ⟨.str ⟨#[c]⟩, by simp [hc], ⟨_, rfl⟩⟩
end Np
namespace Np
open PySem L2
/-- what follows a statement, once for all its ways -/
theorem seq_have {t rest : TS} {D : Ends} {σ : St} {H : Hp} (Mid : St → Hp → Prop) (h2 : ∀ σ H, Mid σ H → rest D σ H) (h1 : (∀ σ H, Mid σ H → rest D σ H) → tSeq t rest D σ H) : tSeq t rest D σ H := h1 h2
theorem asgc_step {v : V} {i : Nat} {rest : TS} {D : Ends} {σ : St} {H : Hp} (h : rest D (σ.set i (some v)) H) : tSeq (tAsg (tC v) (gName i)) rest D σ H := h
theorem dp_ints {K : PySem.W.Frag} {H : Hp} : ∀ ns : List Int, DpAll K H (ns.map V.int) (ns.map PyData.int)
  | [] => .nil
  | n :: ns => .cons (.int n) (dp_ints ns)
/-- data that can be held beside others: k the depth -/
def Fine (k : Nat) (d : PyData) : Prop := PyData.canLay0 d = true ∧ PyData.depth d ≤ k
theorem canLayAll_of : ∀ {ds : List PyData}, (∀ d ∈ ds, PyData.canLay0 d = true) → PyData.canLayAll0 ds = true
  | [], _ => rfl
  | d :: ds, h => by
    show (PyData.canLay0 d && PyData.canLayAll0 ds) = true
    rw [h d List.mem_cons_self, canLayAll_of fun x hx => h x (List.mem_cons_of_mem _ hx)] <;> rfl
theorem depthAll_of {k : Nat} : ∀ {ds : List PyData}, (∀ d ∈ ds, PyData.depth d ≤ k) → PyData.depthAll ds ≤ k
  | [], _ => Nat.zero_le _
  | d :: ds, h => by
    show max (PyData.depth d) (PyData.depthAll ds) ≤ k
    exact Nat.max_le.mpr ⟨h d List.mem_cons_self, depthAll_of fun x hx => h x (List.mem_cons_of_mem _ hx)⟩
theorem Fine.list {k : Nat} {ds : List PyData} (h : ∀ d ∈ ds, Fine k d) : Fine (k + 1) (.list ds) := ⟨canLayAll_of fun d hd => (h d hd).1, Nat.succ_le_succ (depthAll_of fun d hd => (h d hd).2)⟩
theorem Fine.tuple {k : Nat} {ds : List PyData} (h : ∀ d ∈ ds, Fine k d) : Fine (k + 1) (.tuple ds) := ⟨canLayAll_of fun d hd => (h d hd).1, Nat.succ_le_succ (depthAll_of fun d hd => (h d hd).2)⟩
theorem Fine.int (i : Int) : Fine 0 (.int i) := ⟨rfl, Nat.le_refl _⟩
theorem Fine.bool (b : Bool) : Fine 0 (.bool b) := ⟨rfl, Nat.le_refl _⟩
theorem Fine.none : Fine 0 .none := ⟨rfl, Nat.le_refl _⟩
theorem Fine.str {x : Str} (h : PyData.strOk x = true) : Fine 0 (.str x) := ⟨h, Nat.le_refl _⟩
theorem Fine.mono {j k : Nat} {d : PyData} (h : Fine j d) (hk : j ≤ k) : Fine k d := ⟨h.1, Nat.le_trans h.2 hk⟩
theorem Fine.shaped {k : Nat} {d : PyData} (h : Fine k d) (hk : k ≤ 64 := by decide) : SeqAt.shaped d = true := by
  unfold SeqAt.shaped
  rw [h.1, decide_eq_true (Nat.le_trans h.2 hk)] <;> rfl
theorem fine_ints (ns : List Int) : Fine 1 (.list (ns.map PyData.int)) := Fine.list fun d hd => by
  obtain ⟨i, _, rfl⟩ := List.mem_map.mp hd
  exact Fine.int i
theorem shaped_ints (ns : List Int) : SeqAt.shaped (.list (ns.map PyData.int)) = true := (fine_ints ns).shaped
theorem eqv_nil (ds : List PyData) : PyData.eqv (.list ds) (.list []) = ds.isEmpty := by
  cases ds <;> rfl
theorem atI_mod {ns : List Int} {i : Int} (h0 : 0 ≤ i) (h1 : i < ns.length) : ∃ v, atI (ns.map V.int) i = some (.int v) := by
  obtain ⟨j, rfl⟩ := Int.eq_ofNat_of_zero_le h0
  have hj : j < ns.length := by omega
  exact ⟨ns[j], atI_nat (by rw [List.getElem?_map, List.getElem?_eq_getElem hj] <;> rfl)⟩
end Np
namespace Np
open PySem L2
/-! ### kinds of things -/
/-- a thing of a built-in kind -/
def Th (H : Hp) (v : V) : Prop := v = .non ∨ (∃ b, v = .bl b) ∨ (∃ i, v = .int i) ∨ (∃ x, v = .str x) ∨ (∃ a xs, v = .ref a ∧ H a = some (.lst xs)) ∨ (∃ a xs, v = .ref a ∧ H a = some (.tup xs)) ∨ (∃ a kvs, v = .ref a ∧ H a = some (.dK kvs))
theorem Th.mono {G H : Hp} {v : V} (s : Same G H) (h : Th G v) : Th H v := by
  rcases h with h | h | h | h | ⟨a, xs, e, h⟩ | ⟨a, xs, e, h⟩ | ⟨a, xs, e, h⟩
  · exact .inl h
  · exact .inr (.inl h)
  · exact .inr (.inr (.inl h))
  · exact .inr (.inr (.inr (.inl h)))
  · exact .inr (.inr (.inr (.inr (.inl ⟨a, xs, e, s _ _ h⟩))))
  · exact .inr (.inr (.inr (.inr (.inr (.inl ⟨a, xs, e, s _ _ h⟩)))))
  · exact .inr (.inr (.inr (.inr (.inr (.inr ⟨a, xs, e, s _ _ h⟩)))))
theorem Th.bl {H : Hp} (b : Bool) : Th H (.bl b) := .inr (.inl ⟨b, rfl⟩)
theorem Th.int {H : Hp} (i : Int) : Th H (.int i) := .inr (.inr (.inl ⟨i, rfl⟩))
theorem Th.str {H : Hp} (x : Str) : Th H (.str x) := .inr (.inr (.inr (.inl ⟨x, rfl⟩)))
theorem Th.lst {H : Hp} {a : Addr} {xs : List V} (h : H a = some (.lst xs)) : Th H (.ref a) := .inr (.inr (.inr (.inr (.inl ⟨a, xs, rfl, h⟩))))
theorem Th.tup {H : Hp} {a : Addr} {xs : List V} (h : H a = some (.tup xs)) : Th H (.ref a) := .inr (.inr (.inr (.inr (.inr (.inl ⟨a, xs, rfl, h⟩)))))
theorem Th.dK {H : Hp} {a : Addr} {xs : List (Key × V)} (h : H a = some (.dK xs)) : Th H (.ref a) := .inr (.inr (.inr (.inr (.inr (.inr ⟨a, xs, rfl, h⟩)))))
/-- isinstance by int, bool, str -/
def isK (c : String) : V → Bool
  | .str _ => c == "str"
  | .int _ => c == "int"
  | .bl _ => c == "bool" || c == "int"
  | _ => false
theorem isi_of {K : PySem.W.Frag} {H : Hp} {v : V} (h : Th H v) (c : String) (hc : c = "int" ∨ c = "str" ∨ c = "bool") : ∃ t, TyX K H v t ∧ PySem.W.kitOne K t (.type c) = some (isK c v) := by
  rcases h with rfl | ⟨b, rfl⟩ | ⟨i, rfl⟩ | ⟨x, rfl⟩ | ⟨a, xs, rfl, h⟩ | ⟨a, xs, rfl, h⟩ | ⟨a, xs, rfl, h⟩
  · exact ⟨_, .base .non, by rcases hc with rfl | rfl | rfl <;> exact kit_ty (by first | (show kitB _ _ = some true; decide +kernel) | (show kitB _ _ = some false; decide +kernel))⟩
  · exact ⟨_, .base (.bl b), by rcases hc with rfl | rfl | rfl <;> exact kit_ty (by first | (show kitB _ _ = some true; decide +kernel) | (show kitB _ _ = some false; decide +kernel))⟩
  · exact ⟨_, .base (.int i), by rcases hc with rfl | rfl | rfl <;> exact kit_ty (by first | (show kitB _ _ = some true; decide +kernel) | (show kitB _ _ = some false; decide +kernel))⟩
  · exact ⟨_, .base (.str x), by rcases hc with rfl | rfl | rfl <;> exact kit_ty (by first | (show kitB _ _ = some true; decide +kernel) | (show kitB _ _ = some false; decide +kernel))⟩
  · exact ⟨_, .base (.lst h), by rcases hc with rfl | rfl | rfl <;> exact kit_ty (by first | (show kitB _ _ = some true; decide +kernel) | (show kitB _ _ = some false; decide +kernel))⟩
  · exact ⟨_, .base (.tup h), by rcases hc with rfl | rfl | rfl <;> exact kit_ty (by first | (show kitB _ _ = some true; decide +kernel) | (show kitB _ _ = some false; decide +kernel))⟩
  · exact ⟨_, .base (.dK h), by rcases hc with rfl | rfl | rfl <;> exact kit_ty (by first | (show kitB _ _ = some true; decide +kernel) | (show kitB _ _ = some false; decide +kernel))⟩
theorem isK_str {v : V} (h : isK "str" v = true) : ∃ x, v = .str x := by
  cases v with
  | str x => exact ⟨x, rfl⟩
  | _ => exact absurd h (by first | exact Bool.false_ne_true | decide)
theorem isK_int {v : V} (h : isK "int" v = true) (h' : isK "bool" v = false) : ∃ i, v = .int i := by
  cases v with
  | int x => exact ⟨x, rfl⟩
  | bl b => exact absurd (show true = false from h') (by decide)
  | _ => exact absurd h (by first | exact Bool.false_ne_true | decide)
/-- a turn of a comprehension adds a value -/
theorem lc_add {H1 H H4 : Hp} {D : Addr} {acc : List V} {y : V} {Pv : Hp → Prop} (hD : H1 D = none) (s : Same H1 H) (s' : Same H H4) (h : H D = some (.lst acc)) (hl : acc.length < sizeLine)
    (k : Same H1 (upd H4 D (.lst (acc ++ [y]))) → (upd H4 D (.lst (acc ++ [y]))) D = some (.lst (acc ++ [y])) → Pv (upd H4 D (.lst (acc ++ [y])))) : ∃ acc, H4 D = some (.lst acc) ∧ acc.length < sizeLine ∧ Pv (upd H4 D (.lst (acc ++ [y]))) :=
  ⟨acc, s' _ _ h, hl, k (same_mut (s.trans s') hD) upd_same⟩
theorem take_succ_map {α β : Type} (f : α → β) {xs : List α} {i : Nat} {x : α} (h : xs[i]? = some x) : (xs.take (i + 1)).map f = (xs.take i).map f ++ [f x] := by
  rw [List.take_add_one, h, List.map_append] <;> rfl
theorem take_succ_filter {α : Type} (p : α → Bool) {xs : List α} {i : Nat} {x : α} (h : xs[i]? = some x) : (xs.take (i + 1)).filter p = (xs.take i).filter p ++ (if p x = true then [x] else []) := by
  rw [List.take_add_one, h, List.filter_append]
  show _ ++ List.filter p [x] = _
  rw [List.filter_cons, List.filter_nil]
theorem cutV_ints (ns : List Int) (lo hi : Option Int) : ∃ ms : List Int, cutV (ns.map V.int) lo hi = ms.map V.int := by
  unfold cutV
  rw [← List.map_drop, ← List.map_take]
  exact ⟨_, rfl⟩
theorem in_signs (c : Nat) (cs : List Nat) : inV (.str ⟨#[c]⟩) (cs.map fun c => V.str ⟨#[c]⟩) = decide (c ∈ cs) := by
  unfold inV
  induction cs with
  | nil => rfl
  | cons d cs ih =>
    rw [List.map_cons, List.any_cons, ih]
    show ((⟨#[d]⟩ : Str) == (⟨#[c]⟩ : Str) || _) = _
    by_cases h : c = d
    · subst h
      simp
    · have h2 : ((⟨#[d]⟩ : Str) == (⟨#[c]⟩ : Str)) = false := by
        rw [beq_eq_false_iff_ne]
        intro e
        injection e with e
        injection e with e
        injection e with e
        exact h e.symm
      rw [h2, Bool.false_or]
      by_cases h3 : c ∈ cs
      · rw [decide_eq_true h3, decide_eq_true (List.mem_cons_of_mem _ h3)]
      · rw [decide_eq_false h3, decide_eq_false (fun z => by exact (List.mem_cons.mp z).elim h h3)]
theorem flat_signs (cs : List Nat) : (cs.map fun c => V.str ⟨#[c]⟩).all flatV = true := by
  rw [List.all_map]
  exact List.all_eq_true.mpr fun _ _ => rfl
theorem len_add (x y : Str) : (x ++ y).length = x.length + y.length := by
  show (x.cps ++ y.cps).size = _
  rw [Array.size_append] <;> rfl
theorem len_cut (z : Str) (lo hi : Option Int) : (cutS z lo hi).length ≤ z.length := by
  unfold cutS
  show (List.toArray _).size ≤ _
  rw [List.size_toArray, List.length_take, List.length_drop, Array.length_toList]
  show _ ≤ z.cps.size
  omega
end Np
namespace Np
open PySem L2
/-! ### rules whose readings name the written part, the part written out (for a comprehension's block) -/
section
variable {X : Cx} (K : PySem.W.Frag)
theorem op_in_seqK (h : X.K = K := by rfl) : OpR X (compareOp .In) (rIn K false) := by subst h; exact op_in_seq
theorem op_notIn_seqK (h : X.K = K := by rfl) : OpR X (compareOp .NotIn) (rIn K true) := by subst h; exact op_notIn_seq
theorem op_eqDK (hu : X.A.units + 64 < cLine) (h : X.K = K := by rfl) : OpR X (compareOp .Eq) (rEqD K) := by subst h; exact op_eqD hu
theorem op_neDK (hu : X.A.units + 64 < cLine) (h : X.K = K := by rfl) : OpR X (compareOp .NotEq) (rNeD K) := by subst h; exact op_neD hu
theorem op_catTK (h : X.K = K := by rfl) : OpR X (binaryOp .Add) (rCatT K) := by subst h; exact op_catT
theorem ix_listK (h : X.K = K := by rfl) : IxR X (rIxL K) := by subst h; exact ix_list
theorem ix_tupK (h : X.K = K := by rfl) : IxR X (rIxT K) := by subst h; exact ix_tup
theorem sl_listK (h : X.K = K := by rfl) : SlR X (rSlL K) := by subst h; exact sl_list
theorem sl_tupK (h : X.K = K := by rfl) : SlR X (rSlT K) := by subst h; exact sl_tup
def rLenK : List V → Hp → VK → Prop := fun xs H Q => ∃ p ys, xs = [.ref p] ∧ (SqL K H p ys ∨ SqT K H p ys) ∧ Q (.int ys.length) H
theorem call_lenK (h : X.K = K := by rfl) : CallR X (.builtin "len") (rLenK K) := by subst h; exact call_len_seq
def rListK : List V → Hp → VK → Prop := fun xs H Q => ∃ p ys, xs = [.ref p] ∧ (SqL K H p ys ∨ SqT K H p ys) ∧ ∀ l, H l = none → Q (.ref l) (upd H l (.lst ys))
theorem call_listK (h : X.K = K := by rfl) : CallR X (.type "list") (rListK K) := by subst h; exact call_list_of
def rTupleK : List V → Hp → VK → Prop := fun xs H Q => ∃ p ys, xs = [.ref p] ∧ ((SqL K H p ys ∧ ∀ l, H l = none → Q (.ref l) (upd H l (.tup ys))) ∨ (SqT K H p ys ∧ Q (.ref p) H))
theorem call_tupleK (h : X.K = K := by rfl) : CallR X (.type "tuple") (rTupleK K) := by subst h; exact call_tuple_of
theorem cr_sumK (hc : X.calm = true) (h : X.K = K := by rfl) : CallR X (.builtin "sum") (rSum K) := by subst h; exact cr_sum hc
theorem cr_maxK (hc : X.calm = true) (h : X.K = K := by rfl) : CallR X (.builtin "max") (rMax K) := by subst h; exact cr_max hc
theorem cr_minK (hc : X.calm = true) (h : X.K = K := by rfl) : CallR X (.builtin "min") (rMin K) := by subst h; exact cr_min hc
theorem cr_allK (hc : X.calm = true) (h : X.K = K := by rfl) : CallR X (.builtin "all") (rAll K) := by subst h; exact cr_all hc
theorem cr_anyK (hc : X.calm = true) (h : X.K = K := by rfl) : CallR X (.builtin "any") (rAny K) := by subst h; exact cr_any hc
theorem call_isiKK (h : X.K = K := by rfl) : CallR X (.builtin "isinstance") (rIsi K) := by subst h; exact call_isi
theorem call_isiTK (h : X.K = K := by rfl) : CallR X (.builtin "isinstance") (rIsiT K) := by subst h; exact call_isiT
theorem pi_listK {tg l : Expr} {tl : TE} (hl : PE X l tl) (h : X.K = K := by rfl) : PI X tg l (iList K tl) := by subst h; exact pi_list hl
theorem pi_tupK {tg l : Expr} {tl : TE} (hl : PE X l tl) (h : X.K = K := by rfl) : PI X tg l (iTup K tl) := by subst h; exact pi_tup hl
theorem pi_enumK {e : Expr} {ta : TA} {p pos tpos : Pos} {elts : List Expr} {kk : Nat} (hg : Gl X "enumerate") (hm : X.mg "enumerate" = none) (ha : PA X [e] ta) (hs : starEach [e] X.env = [(false, eval e X.env)] := by rfl) (h : X.K = K := by rfl) :
    PI X (.Tuple elts kk tpos) (.Call (.Name "enumerate" p) [e] [] pos) (iEnum K ta) := by subst h; exact pi_enum hg hm ha hs
theorem pi_zipK {e e2 : Expr} {ta : TA} {p pos tpos : Pos} {elts : List Expr} {kk : Nat} (hg : Gl X "zip") (hm : X.mg "zip" = none) (ha : PA X [e, e2] ta)
    (hs : starEach [e, e2] X.env = (false, eval e X.env) :: starEach [e2] X.env := by rfl) (hpl : (backTo pos (starEach [e2] X.env)).any (·.1) = false := by rfl) (h : X.K = K := by rfl) :
    PI X (.Tuple elts kk tpos) (.Call (.Name "zip" p) [e, e2] [] pos) (iZip K ta) := by subst h; exact pi_zip hg hm ha hs hpl
theorem pi_reversedK {tg e : Expr} {ta : TA} {p pos : Pos} (hg : Gl X "reversed") (hm : X.mg "reversed" = none) (ha : PA X [e] ta) (hs : starEach [e] X.env = [(false, eval e X.env)] := by rfl) (h : X.K = K := by rfl) :
    PI X tg (.Call (.Name "reversed" p) [e] [] pos) (iRev K ta) := by subst h; exact pi_reversed hg hm ha hs
theorem pg_tupK {es : List Expr} {k n : Nat} {t : TGs} {pos : Pos} (hc : X.calm = true) (h' : PGs X es t)
    (hn : (assignEach es X.env).length = n := by rfl) (hst : (assignEach es X.env).findIdx? (·.1) = none := by rfl) (h : X.K = K := by rfl) : PG X (.Tuple es k pos) (gTup K n t) := by subst h; exact pg_tup hc h' hn hst
def rJoinK : V → List V → Hp → VK → Prop := fun x xs H Q => ∃ a p, ∃ ys : List Str, x = .str a ∧ xs = [.ref p] ∧ (SqL K H p (ys.map V.str) ∨ SqT K H p (ys.map V.str)) ∧
      (ys.map (·.length)).sum + ys.length * a.length ≤ 16777216 ∧ Q (.str (Txt.join a ys)) H
theorem pe_joinK {o e : Expr} {to te : TE} {apos pos : Pos} (ho : PE X o to) (he : PE X e te) (hs : starEach [e] X.env = [(false, eval e X.env)] := by rfl) (hbase : attributeBase o "join" X.env (eval o X.env) = eval o X.env := by rfl) (hline : (apos.endLine == pos.line) = true := by rfl) (h : X.K = K := by rfl) :
    PE X (.Call (.Attribute o "join" apos) [e] [] pos) (tM1 (rJoinK K) to te) := by subst h; exact pe_join ho he hs hbase hline
theorem pe_bmK {T : String} {name : Str} {id : String} {r : V → List V → Hp → VK → Prop} {o e : Expr} {es : List Expr} {to : TE} {t : TA} {apos cpos : Pos} (pa : PlainAttrs T) (slot : Slot T name id) (hty : typeOf (.builtin id) = pure (.type "method_descriptor")) (hm : MtR X id r) (ho : PE X o to) (ha : PA X (e :: es) t)
    (hbase : attributeBase o name X.env (eval o X.env) = eval o X.env := by rfl)
    (hfew : ((backTo cpos (starEach (e :: es) X.env)).all (fun x => !x.1) && (backToKw cpos (keywordEach [] X.env)).all (fun x => x.1.isSome)
      && decide ((e :: es).length + ([] : List Keyword).length + (if ([] : List Keyword).isEmpty then 0 else 1) < 30)) = true := by rfl)
    (hline : (apos.endLine == cpos.line) = true := by rfl) (hs : starEach (e :: es) X.env = (false, eval e X.env) :: starEach es X.env := by rfl) (hplain : (backTo cpos (starEach es X.env)).any (·.1) = false := by rfl) (h : X.K = K := by rfl) :
    PE X (.Call (.Attribute o name apos) (e :: es) [] cpos) (tBM K T r to t) := by subst h; exact pe_bm pa slot hty hm ho ha hbase hfew hline hs hplain
theorem pe_bm0K {T : String} {name : Str} {id : String} {r : V → List V → Hp → VK → Prop} {o : Expr} {to : TE} {apos cpos : Pos} (pa : PlainAttrs T) (slot : Slot T name id) (hty : typeOf (.builtin id) = pure (.type "method_descriptor")) (hm : MtR X id r) (ho : PE X o to)
    (hbase : attributeBase o name X.env (eval o X.env) = eval o X.env := by rfl) (hline : (apos.endLine == cpos.line) = true := by rfl) (h : X.K = K := by rfl) : PE X (.Call (.Attribute o name apos) [] [] cpos) (tBM0 K T r to) := by subst h; exact pe_bm0 pa slot hty hm ho hbase hline
end
end Np
namespace Np
open PySem L2
/-! ### texts: how long at most, right signs -/
structure Tx (n : Nat) (x : Str) : Prop where
  len : x.length ≤ n
  ok : ∀ c ∈ x.cps.toList, c < 1114112
theorem Tx.strOk {n : Nat} {x : Str} (h : Tx n x) : PyData.strOk x = true := by
  unfold PyData.strOk
  rw [← Array.all_toList]
  exact List.all_eq_true.mpr fun c hc => decide_eq_true (h.ok c hc)
theorem Tx.mono {n m : Nat} {x : Str} (h : Tx n x) (hm : n ≤ m) : Tx m x := ⟨Nat.le_trans h.len hm, h.ok⟩
theorem Tx.add {n m : Nat} {x y : Str} (h : Tx n x) (h' : Tx m y) : Tx (n + m) (x ++ y) := by
  refine ⟨by rw [len_add]; exact Nat.add_le_add h.len h'.len, fun c hc => ?_⟩
  have e : (x ++ y).cps.toList = x.cps.toList ++ y.cps.toList := by
    show (x.cps ++ y.cps).toList = _
    rw [Array.toList_append]
  rw [e] at hc
  rcases List.mem_append.mp hc with q | q
  · exact h.ok c q
  · exact h'.ok c q
theorem Tx.cut {n : Nat} {x : Str} (h : Tx n x) (lo hi : Option Int) : Tx n (cutS x lo hi) := by
  refine ⟨Nat.le_trans (len_cut x lo hi) h.len, fun c hc => ?_⟩
  unfold cutS at hc
  exact h.ok c (List.mem_of_mem_drop (List.mem_of_mem_take hc))
theorem Tx.sign {c : Nat} (h : c < 1114112) : Tx 1 (⟨#[c]⟩ : Str) := ⟨Nat.le_refl _, fun d hd => by
  have e : d = c := List.mem_singleton.mp hd
  rw [e]
  exact h⟩
theorem atI_mem {α : Type} {xs : List α} {i : Int} {v : α} (h : atI xs i = some v) : v ∈ xs := by
  obtain ⟨j, _, hj, _⟩ := atI_get h
  exact List.mem_of_getElem? hj
theorem atI_some {α : Type} {xs : List α} {i : Int} (h0 : 0 ≤ i) (h1 : i < xs.length) : ∃ v, atI xs i = some v ∧ v ∈ xs := by
  obtain ⟨j, rfl⟩ := Int.eq_ofNat_of_zero_le h0
  have hj : j < xs.length := by omega
  exact ⟨xs[j], atI_nat (List.getElem?_eq_getElem hj), List.getElem_mem hj⟩
theorem Tx.at {n : Nat} {x : Str} {i : Int} {c : Nat} (h : Tx n x) (e : atI x.cps.toList i = some c) : Tx 1 (⟨#[c]⟩ : Str) := Tx.sign (h.ok c (atI_mem e))
theorem ofString_ok (s : String) : ∀ c ∈ (Str.ofString s).cps.toList, c < 1114112 := fun c hc => by
  rw [Str.ofString_eq_toList] at hc
  obtain ⟨d, _, rfl⟩ := List.mem_map.mp hc
  have h := d.valid
  have e : d.toNat = d.val.toNat := rfl
  rcases h with h | ⟨_, h⟩ <;> omega
theorem ofString_len (s : String) : (Str.ofString s).length = s.length := by
  rw [Str.ofString_eq_toList]
  show (List.toArray _).size = _
  rw [List.size_toArray, List.length_map, String.length_toList]
theorem Tx.num {i : Int} {k : Nat} (hk : 0 < k) (h : i.natAbs < 10 ^ k) : Tx (k + 1) (Str.ofString (toString i)) :=
  ⟨by rw [ofString_len]; exact int_text_length_le10 hk h, ofString_ok _⟩
theorem Tx.lit {n : Nat} (s : String) (h : (Str.ofString s).length ≤ n) : Tx n (Str.ofString s) := ⟨h, ofString_ok s⟩
theorem dp_strs {K : PySem.W.Frag} {H : Hp} : ∀ xs : List Str, DpAll K H (xs.map V.str) (xs.map PyData.str)
  | [] => .nil
  | x :: xs => .cons (.str x) (dp_strs xs)
theorem fine_strs {xs : List Str} (h : ∀ x ∈ xs, PyData.strOk x = true) : Fine 1 (.list (xs.map PyData.str)) := Fine.list fun d hd => by
  obtain ⟨x, hx, rfl⟩ := List.mem_map.mp hd
  exact Fine.str (h x hx)
end Np
namespace Np
open PySem L2
/-! ### all but one object is as it was -/
def But (t : Addr) (H H' : Hp) : Prop := ∀ b o, b ≠ t → H b = some o → H' b = some o
theorem But.refl {t : Addr} {H : Hp} : But t H H := fun _ _ _ h => h
theorem But.trans {t : Addr} {H H1 H2 : Hp} (a : But t H H1) (b : But t H1 H2) : But t H H2 := fun c o n h => b c o n (a c o n h)
theorem But.of {t : Addr} {H H' : Hp} (s : Same H H') : But t H H' := fun b o _ h => s b o h
theorem But.mut {t : Addr} {H : Hp} {o : HO} : But t H (upd H t o) := fun b u n h => by rw [upd_ne n]; exact h
theorem But.new {t p : Addr} {H : Hp} {o : HO} (n : H p = none) : But t H (upd H p o) := But.of (same_new n)
theorem But.same {t : Addr} {G H H' : Hp} (b : But t H H') (s : Same G H) (g : G t = none) : Same G H' := fun a o h => b a o (ne_of_none h g) (s a o h)
/-- a tape at tp, over what stays (G): its cells, how many were begun (at most n), what is left of a great one -/
def Tape (K : PySem.W.Frag) (G H : Hp) (tp : Addr) (n : Nat) : Prop := Same G H ∧ G tp = none ∧ ∃ (c : Addr) (ns : List Int) (at' left : Int),
  SqL K G c (ns.map V.int) ∧ H tp = some (.lst [.ref c, .int at', .int left]) ∧ 0 ≤ at' ∧ at' ≤ n ∧ 0 ≤ left
section
variable {K : PySem.W.Frag} {G H H' : Hp} {tp p : Addr} {n m : Nat} {o : HO}
theorem Tape.step {c : Addr} {ns : List Int} {a b : Int} (s : Same G H) (g : G tp = none) (hc : SqL K G c (ns.map V.int)) (h0 : 0 ≤ a) (h1 : a ≤ n) (h2 : 0 ≤ b) :
    Tape K G (upd H tp (.lst [.ref c, .int a, .int b])) tp n := ⟨same_mut s g, g, c, ns, a, b, hc, upd_same, h0, h1, h2⟩
theorem Tape.at (t : Tape K G H tp n) : ∃ xs, H tp = some (.lst xs) := by
  obtain ⟨_, _, c, ns, a, b, _, h, _⟩ := t
  exact ⟨_, h⟩
theorem Tape.ex (t : Tape K G H tp n) : ∃ u, H tp = some u := by
  obtain ⟨xs, h⟩ := t.at
  exact ⟨_, h⟩
theorem Tape.ne (t : Tape K G H tp n) (h : H p = none) : p ≠ tp := by
  obtain ⟨xs, e⟩ := t.at
  exact fun z => by rw [z, e] at h; cases h
theorem Tape.new (t : Tape K G H tp n) (h : H p = none) : Tape K G (upd H p o) tp n := by
  have e := t.ne h
  obtain ⟨s, g, c, ns, a, b, hc, hT, r⟩ := t
  exact ⟨s.trans (same_new h), g, c, ns, a, b, hc, by rw [upd_ne e.symm]; exact hT, r⟩
/-- another object, that does not stay, changes -/
theorem Tape.mut (t : Tape K G H tp n) (g' : G p = none) (e : p ≠ tp) : Tape K G (upd H p o) tp n := by
  obtain ⟨s, g, c, ns, a, b, hc, hT, r⟩ := t
  exact ⟨same_mut s g', g, c, ns, a, b, hc, by rw [upd_ne e.symm]; exact hT, r⟩
/-- an object stays from now on -/
theorem Tape.keep (t : Tape K G H tp n) (h : H p = some o) (e : p ≠ tp) (g' : G p = none) : Tape K (upd G p o) H tp n := by
  obtain ⟨s, g, c, ns, a, b, hc, hT, r⟩ := t
  refine ⟨fun q u hq => ?_, by rw [upd_ne e.symm]; exact g, c, ns, a, b, (same_new g').seq hc, hT, r⟩
  by_cases z : q = p
  · subst z
    rw [upd_same] at hq
    rw [← hq]
    exact h
  · rw [upd_ne z] at hq
    exact s q u hq
/-- a new object that stays -/
theorem Tape.newK (t : Tape K G H tp n) (h : H p = none) : Tape K (upd G p o) (upd H p o) tp n :=
  (t.new h).keep upd_same (t.ne h) (t.1.free h)
theorem Tape.mono (t : Tape K G H tp n) (h : n ≤ m) : Tape K G H tp m := by
  obtain ⟨s, g, c, ns, a, b, hc, hT, h0, h1, h2⟩ := t
  exact ⟨s, g, c, ns, a, b, hc, hT, h0, by omega, h2⟩
theorem Tape.free (t : Tape K G H tp n) (h : H p = none) : G p = none := t.1.free h
end
def spDraw (K : PySem.W.Frag) : Sp := fun vs H Q _ => ∃ (G : Hp) (tp : Addr) (n : Nat) (many : Int), vs = [.ref tp, .int many] ∧ Tape K G H tp n ∧ 0 < many ∧ many < 1073741824 ∧ n < 2 ^ 60 ∧
  ∀ r H', 0 ≤ r → r < many → But tp H H' → Tape K G H' tp (n + 1) → Q (.int r) H'
end Np
namespace Np
open PySem L2
theorem Tape.same {K : PySem.W.Frag} {G H H' : Hp} {tp : Addr} {n : Nat} (t : Tape K G H tp n) (s : Same H H') : Tape K G H' tp n := by
  obtain ⟨s0, g, c, ns, a, b, hc, hT, r⟩ := t
  exact ⟨s0.trans s, g, c, ns, a, b, hc, s _ _ hT, r⟩
theorem Tx.empty : Tx 0 (⟨#[]⟩ : Str) := ⟨Nat.le_refl _, fun c hc => by cases hc⟩
theorem Tx.join0 : ∀ {ys : List Str}, (∀ y ∈ ys, Tx 1 y) → Tx ys.length (Txt.join ("" : Str) ys)
  | [], _ => by
    rw [TL.join_eq]
    exact Tx.empty
  | [x], h => by
    rw [TL.join_eq]
    exact h x List.mem_cons_self
  | x :: z :: r, h => by
    have ih := Tx.join0 (ys := z :: r) fun y hy => h y (List.mem_cons_of_mem _ hy)
    rw [TL.join_eq] at ih ⊢
    show Tx _ (x ++ ("" : Str) ++ Str.join ("" : Str) (z :: r))
    exact (((h x List.mem_cons_self).add Tx.empty).add ih).mono (by simp only [List.length_cons]; omega)
theorem lens_le {n : Nat} : ∀ {ys : List Str}, (∀ y ∈ ys, Tx n y) → (ys.map (·.length)).sum ≤ ys.length * n
  | [], _ => Nat.zero_le _
  | y :: ys, h => by
    have ih := lens_le (ys := ys) fun z hz => h z (List.mem_cons_of_mem _ hz)
    have h1 := (h y List.mem_cons_self).len
    rw [List.map_cons, List.sum_cons, List.length_cons, Nat.succ_mul]
    omega
end Np
namespace Np
open PySem L2
theorem Tape.grow {K : PySem.W.Frag} {G H : Hp} {tp p : Addr} {n : Nat} {o : HO} (t : Tape K G H tp n) (h : H p = none) : ∃ G1, Same G G1 ∧ G1 p = some o ∧ Tape K G1 (upd H p o) tp n :=
  ⟨upd G p o, same_new (t.free h), upd_same, t.newK h⟩
end Np
namespace Np
open PySem PySem.Spec PyProof.Rows L2
/-! ### text[::-1] -/
def revS (z : Str) : Str := ⟨z.cps.toList.reverse.toArray⟩
def tRevS (te : TE) : TE := fun σ H Q => te σ H fun x H1 => ∃ z, x = .str z ∧ z.length ≤ sizeLine ∧ Q (.str (revS z)) H1
theorem pe_revS {X : Cx} {e : Expr} {te : TE} {k : Nat} {p1 p2 p3 pos : Pos} (he : PE X e te) : PE X (.Subscript e (.Slice none none (some (.UnaryOp .USub (.Constant (.int 1) k p1) p2)) p3) pos) (tRevS te) := by
  refine ⟨fun pins s σ H Q I h => ?_⟩
  refine Subscript_ (L2.thn (he.run pins s σ H _ I h) fun v s1 ⟨x, H1, I1, r1, q1⟩ => ?_)
  obtain ⟨z, ex, hz, q⟩ := q1
  subst ex
  obtain ⟨t, rfl⟩ := r1
  have hst : PO X (some (.UnaryOp .USub (.Constant (.int 1) k p1) p2)) (tPart (tUn (rU fun i => .int (-i)) (tC (.int 1)))) := po_some (pe_un un_neg pe_int)
  refine wpAny_Slice (L2.thn (po_none.run pins s1 σ H1 (fun o H2 => o = none ∧ H2 = H1) I1 ⟨rfl, rfl⟩) fun vl s2 ⟨l, H2, I2, pl, el, e2⟩ => ?_)
  subst el e2
  refine L2.thn (po_none.run pins s2 σ H2 (fun o H3 => o = none ∧ H3 = H2) I2 ⟨rfl, rfl⟩) fun vu s3 ⟨u, H3, I3, pu, eu, e3⟩ => ?_
  subst eu e3
  refine L2.thn (hst.run pins s3 σ H3 (fun o H4 => o = some (-1) ∧ H4 = H3) I3 ⟨1, rfl, -1, rfl, rfl, rfl⟩) fun vs s4 ⟨o, H4, I4, ps, eo, e4⟩ => ?_
  subst eo e4
  have I5 : Inv X pins σ H4 { s4 with heap := s4.heap.push { cls := .type "slice", data := .fields #[vl, vu, vs] } } := I4.kept (t' := s4.toks) fun b ob q => Heap.get?_push_of_some _ q
  show wpAny (model X.prog X.w) X.A (subscriptTail e (.Slice none none (some (.UnaryOp .USub (.Constant (.int 1) k p1) p2)) p3) (.str z t) (.ref s4.heap.objs.size)) (EP X pins σ Q) X.xe { s4 with heap := s4.heap.push { cls := .type "slice", data := .fields #[vl, vu, vs] } }
  refine tail_any (ops := [.str z t, .ref s4.heap.objs.size]) (typeIs_str _ _ _) (PySem.F.slot_str_getitem.lookup) ?_ (by with_unfolding_all rfl)
  obtain ⟨l', rfl, el⟩ := IsPart.raw pl
  obtain ⟨u', rfl, eu⟩ := IsPart.raw pu
  obtain ⟨st', rfl, es⟩ := IsPart.raw ps
  have hl : l' = none := by cases l' with | none => rfl | some p => exact nomatch el
  have hu : u' = none := by cases u' with | none => rfl | some p => exact nomatch eu
  subst hl hu
  obtain ⟨⟨m, tk⟩, rfl⟩ : ∃ p, st' = some p := by cases st' with | none => exact nomatch es | some p => exact ⟨p, rfl⟩
  obtain rfl : m = -1 := Option.some.inj es
  have isl : (s4.heap.push { cls := .type "slice", data := .fields #[partValue none, partValue none, partValue (some (-1, tk))] }).IsSlice s4.heap.objs.size none none (some (-1, tk)) :=
    ⟨_, Heap.get?_push_size _ rfl, rfl, rfl⟩
  refine wpAny_getItem_str_slice (l := none) (u := none) (st := some (-1, tk)) isl rfl ?_
  have e : Builtin.Str.strSliceIndices none none (-1) z.length = (List.range z.length).map fun k => z.length - 1 - k := PySem.W.krv_sliceRange z.length
  have e2 : ((List.range z.length).map fun k => z.length - 1 - k).filterMap (z.cps[·]?) = z.cps.toList.reverse := by
    rw [PySem.W.krv_range, List.filterMap_reverse]
    have := PySem.W.krv_all z.cps
    exact congrArg List.reverse this
  show Made.post (if ((-1 : Int) == 1 && (Builtin.Str.strSliceIndices none none (-1) z.length).length == z.length) = true then Made.val (.str z t)
    else Made.str ⟨((Builtin.Str.strSliceIndices none none (-1) z.length).filterMap (z.cps[·]?)).toArray⟩) (EP X pins σ Q) _
  rw [if_neg (by simp), e, e2]
  refine ⟨?_, .str _, H4, I5.tok _, ⟨_, rfl⟩, q⟩
  show (List.toArray _).size ≤ _
  rw [List.size_toArray, List.length_reverse, Array.length_toList]
  exact hz
theorem Tx.rev {n : Nat} {x : Str} (h : Tx n x) : Tx n (revS x) := by
  refine ⟨?_, fun c hc => h.ok c (List.mem_reverse.mp hc)⟩
  show (List.toArray _).size ≤ _
  rw [List.size_toArray, List.length_reverse, Array.length_toList]
  exact h.len
theorem pe_revLK {X : Cx} (K : PySem.W.Frag) {e : Expr} {te : TE} {k : Nat} {p1 p2 p3 pos : Pos} (he : PE X e te) (h : X.K = K := by rfl) : PE X (.Subscript e (.Slice none none (some (.UnaryOp .USub (.Constant (.int 1) k p1) p2)) p3) pos) (tRevL K te) := by subst h; exact pe_revL he
/-- slices of lists of texts -/
theorem cutV_strs (ys : List Str) (lo hi : Option Int) : ∃ zs : List Str, cutV (ys.map V.str) lo hi = zs.map V.str ∧ (∀ z ∈ zs, z ∈ ys) ∧ zs.length ≤ ys.length := by
  unfold cutV
  rw [← List.map_drop, ← List.map_take]
  exact ⟨_, rfl, fun z hz => List.mem_of_mem_drop (List.mem_of_mem_take hz), by rw [List.length_take, List.length_drop]; omega⟩
end Np
namespace Np
open PySem L2
theorem Tx.size {n : Nat} {x : Str} (h : Tx n x) (hs : n ≤ 16777216 := by omega) : x.length ≤ sizeLine := by
  rw [sizeLine_eq]
  exact Nat.le_trans h.len hs
theorem Tx.fit {n m : Nat} {x y : Str} (h : Tx n x) (h' : Tx m y) (hs : n + m ≤ 16777216 := by omega) : x.length + y.length ≤ sizeLine := by
  rw [sizeLine_eq]
  exact Nat.le_trans (Nat.add_le_add h.len h'.len) hs
theorem size_of {n : Nat} (h : n ≤ 16777216 := by omega) : n ≤ sizeLine := by rw [sizeLine_eq]; exact h
theorem size_lt {n : Nat} (h : n < 16777216 := by omega) : n < sizeLine := by rw [sizeLine_eq]; exact h
theorem toList_add (x y : Str) : (x ++ y).cps.toList = x.cps.toList ++ y.cps.toList := by
  show (x.cps ++ y.cps).toList = _
  rw [Array.toList_append]
theorem nl_eq : (Str.ofString "\n") = (⟨#[10]⟩ : Str) := by decide +kernel
theorem eqv_refl {k : Nat} {d : PyData} (h : Fine k d) : PyData.eqv d d = true := SeqAt.eqv_refl d h.1
end Np
namespace Np
open PySem L2
theorem But.free {t p : Addr} {H H' : Hp} (b : But t H H') (h : H' p = none) (e : p ≠ t) : H p = none := by
  cases q : H p with
  | none => rfl
  | some o => rw [b p o e q] at h; cases h
theorem But.mutN {t p : Addr} {H H' : Hp} {o : HO} (b : But t H H') (h : H p = none) : But t H (upd H' p o) := fun a u n e => by
  rw [upd_ne (ne_of_none e h)]
  exact b a u n e
end Np

set_option Elab.async false
set_option linter.all false
set_option maxRecDepth 100000
set_option maxHeartbeats 4000000
namespace Nk04
open PySem L2 Np
def top (i : Nat) : Stmt := PySem.Challenge.pw_nightpaper_k04_marks_of_rows.main.body.getD i (.Pass ⟨0, 0, 0, 0⟩)
abbrev s_mark_of : Stmt := top 2
abbrev nm_mark_of : List Str := ["rows", "mark", "row", "sign"]
abbrev ps_mark_of : List Str := ["rows"]
abbrev s__law_tape : Stmt := top 4
abbrev nm__law_tape : List Str := ["_law_script"]
abbrev ps__law_tape : List Str := ["_law_script"]
abbrev s__law_draw : Stmt := top 5
abbrev nm__law_draw : List Str := ["_law_tape_here", "_law_many", "_law_digit", "_law_turn", "_law_cell", "_law_primes", "_law_prime", "_law_mixed"]
abbrev ps__law_draw : List Str := ["_law_tape_here", "_law_many"]
abbrev s__law_signs : Stmt := top 6
abbrev nm__law_signs : List Str := ["_law_signs_here"]
abbrev ps__law_signs : List Str := []
abbrev s__law_joined : Stmt := top 7
abbrev nm__law_joined : List Str := ["_law_one", "_law_other", "_law_found", "_law_power"]
abbrev ps__law_joined : List Str := ["_law_one", "_law_other"]
abbrev s__law_mark : Stmt := top 8
abbrev nm__law_mark : List Str := ["_law_lines", "_law_mark_here", "_law_row", "_law_sign"]
abbrev ps__law_mark : List Str := ["_law_lines"]
abbrev s__law_text : Stmt := top 9
abbrev nm__law_text : List Str := ["_law_tape_here", "_law_most", "_law_signs_here", "_law_k"]
abbrev ps__law_text : List Str := ["_law_tape_here", "_law_most"]
abbrev s__law_near : Stmt := top 10
abbrev nm__law_near : List Str := ["_law_tape_here", "_law_lines", "_law_found", "_law_k", "_law_row", "_law_way", "_law_at", "_law_sign"]
abbrev ps__law_near : List Str := ["_law_tape_here", "_law_lines"]
abbrev s__law_right : Stmt := top 11
abbrev nm__law_right : List Str := ["_law_lines", "_law_due", "_law_handed", "_law_again", "_law_found"]
abbrev ps__law_right : List Str := ["_law_lines"]
abbrev s_law : Stmt := top 12
abbrev nm_law : List Str := ["_law_script", "_law_tape_here", "_law_turn", "_law_lines", "_law_k"]
abbrev ps_law : List Str := ["_law_script"]
theorem sc_mark_of : FnScope nm_mark_of ps_mark_of (defScope s_mark_of) := ⟨rfl, rfl, rfl, by decide +kernel, rfl, by decide +kernel, by decide +kernel⟩
theorem sc__law_tape : FnScope nm__law_tape ps__law_tape (defScope s__law_tape) := ⟨rfl, rfl, rfl, by decide +kernel, rfl, by decide +kernel, by decide +kernel⟩
theorem sc__law_draw : FnScope nm__law_draw ps__law_draw (defScope s__law_draw) := ⟨rfl, rfl, rfl, by decide +kernel, rfl, by decide +kernel, by decide +kernel⟩
theorem sc__law_signs : FnScope nm__law_signs ps__law_signs (defScope s__law_signs) := ⟨rfl, rfl, rfl, by decide +kernel, rfl, by decide +kernel, by decide +kernel⟩
theorem sc__law_joined : FnScope nm__law_joined ps__law_joined (defScope s__law_joined) := ⟨rfl, rfl, rfl, by decide +kernel, rfl, by decide +kernel, by decide +kernel⟩
theorem sc__law_mark : FnScope nm__law_mark ps__law_mark (defScope s__law_mark) := ⟨rfl, rfl, rfl, by decide +kernel, rfl, by decide +kernel, by decide +kernel⟩
theorem sc__law_text : FnScope nm__law_text ps__law_text (defScope s__law_text) := ⟨rfl, rfl, rfl, by decide +kernel, rfl, by decide +kernel, by decide +kernel⟩
theorem sc__law_near : FnScope nm__law_near ps__law_near (defScope s__law_near) := ⟨rfl, rfl, rfl, by decide +kernel, rfl, by decide +kernel, by decide +kernel⟩
theorem sc__law_right : FnScope nm__law_right ps__law_right (defScope s__law_right) := ⟨rfl, rfl, rfl, by decide +kernel, rfl, by decide +kernel, by decide +kernel⟩
theorem sc_law : FnScope nm_law ps_law (defScope s_law) := ⟨rfl, rfl, rfl, by decide +kernel, rfl, by decide +kernel, by decide +kernel⟩
structure Txt (K : PySem.W.Frag) (mg : Str → Option Value) : Prop where
  b_abs : mg "abs" = none
  b_bool : mg "bool" = none
  b_int : mg "int" = none
  b_isinstance : mg "isinstance" = none
  b_len : mg "len" = none
  b_list : mg "list" = none
  b_ord : mg "ord" = none
  b_range : mg "range" = none
  g_FIRST : Glb mg "FIRST" (.int 40503)

def sp__law_draw (K : PySem.W.Frag) : Sp := spDraw K

theorem ok__law_draw {P : Program} {w : World} {K : PySem.W.Frag} {mg : Str → Option Value} {base : Heap} {f : Addr} {fd : FuncData} (T : Txt K mg) (F : Fun K "_law_draw" "_law_draw" s__law_draw f fd)
     : FnOk P w K mg base CX0 1 f fd ps__law_draw (sp__law_draw K) := by
  refine F.ok sc__law_draw (fun vs H Q E h => ?_) (fun cdv A outer s H vs Q E hr h => ?_)
  · obtain ⟨G, tp, n, many, rfl, ⟨sG, gt, c, ns, at0, left, hc, hT, h0, h1, h2⟩, m0, m1, hn, k⟩ := h
    rfl
  · obtain ⟨G, tp, n, many, rfl, ⟨sG, gt, c, ns, at0, left, hc, hT, h0, h1, h2⟩, m0, m1, hn, k⟩ := h
    refine ⟨_, (pss_cons (ps_if (pt_cmpR op_gt (pe_ix (ix_listK K) (pv 0) pe_int (fun _ _ => rfl)) pe_int (nomark _))
      (pss_cons (ps_set (i := 2) sc__law_draw.nd rfl (Or.inl rfl) (pe_op op_mod (pe_ix (ix_listK K) (pv 0) pe_int (fun _ _ => rfl)) (pv 1)))
      (pss_cons (ps_asg (pe_op op_fdivN (pe_ix (ix_listK K) (pv 0) pe_int (fun _ _ => rfl)) (pv 1)) (pg_sub (pv 0) pe_int set_list))
      (pss_one (ps_ret (pv 2)))))
      pss_nil)
      (pss_cons (ps_set (i := 3) sc__law_draw.nd rfl (Or.inl rfl) (pe_ix (ix_listK K) (pv 0) pe_int (fun _ _ => rfl)))
      (pss_cons (ps_asg (pe_op op_add (pv 3) pe_int) (pg_sub (pv 0) pe_int set_list))
      (pss_cons (ps_set (i := 4) sc__law_draw.nd rfl (Or.inl rfl) pe_int)
      (pss_cons (ps_if (pt_cmpR (op_neDK K hr.units) (pe_ix (ix_listK K) (pv 0) pe_int (fun _ _ => rfl)) (pe_lst pa_nil) (nomark _))
      (pss_one (ps_set (i := 4) sc__law_draw.nd rfl (Or.inl rfl) (pe_ix (ix_listK K) (pe_ix (ix_listK K) (pv 0) pe_int (fun _ _ => rfl)) (pe_op op_mod (pv 3) (pe_callB (call_lenK K) (by rfl) T.b_len (by decide +kernel) (pa_cons (pe_ix (ix_listK K) (pv 0) pe_int (fun _ _ => rfl)) pa_nil))) (fun _ _ => rfl))))
      pss_nil)
      (pss_cons (ps_if (PW.pt (pw_and (pt_cmpR op_lt (pv 3) (pe_callB (call_lenK K) (by rfl) T.b_len (by decide +kernel) (pa_cons (pe_ix (ix_listK K) (pv 0) pe_int (fun _ _ => rfl)) pa_nil)) (nomark _)) (pw_and1 (pt_cmpR op_ge (pe_callB call_abs (by rfl) T.b_abs (by decide +kernel) (pa_cons (pv 4) pa_nil)) (pe_op op_pow pe_int pe_int) (nomark _)))))
      (pss_cons (ps_asg (pe_op op_fdivN (pe_op op_sub (pe_callB call_abs (by rfl) T.b_abs (by decide +kernel) (pa_cons (pv 4) pa_nil)) (pe_op op_pow pe_int pe_int)) (pv 1)) (pg_sub (pv 0) pe_int set_list))
      (pss_one (ps_ret (pe_op op_mod (pe_op op_sub (pe_callB call_abs (by rfl) T.b_abs (by decide +kernel) (pa_cons (pv 4) pa_nil)) (pe_op op_pow pe_int pe_int)) (pv 1)))))
      pss_nil)
      (pss_cons (ps_set (i := 5) sc__law_draw.nd rfl (Or.inl rfl) (pe_lst (pa_cons pe_int (pa_cons pe_int (pa_cons pe_int (pa_cons pe_int (pa_cons pe_int pa_nil)))))))
      (pss_cons (ps_set (i := 6) sc__law_draw.nd rfl (Or.inl rfl) (pe_ix (ix_listK K) (pv 5) (pe_op op_mod (pv 3) pe_int) (fun _ _ => rfl)))
      (pss_cons (ps_set (i := 7) sc__law_draw.nd rfl (Or.inl rfl) (pe_op op_mod (pe_op op_add (pe_op op_add (pe_op op_add (pe_op op_mul (pe_op op_mod (pv 4) (pv 6)) pe_int) (pe_op op_mul (pe_op op_mul pe_int (pv 3)) (pv 3))) (pe_op op_mul pe_int (pv 3))) pe_int) (pv 6)))
      (pss_cons (ps_set (i := 7) sc__law_draw.nd rfl (Or.inl rfl) (pe_op op_mod (pe_op op_mul (pv 7) (pe_op op_add (pv 7) pe_int)) (pe_ix (ix_listK K) (pv 5) (pe_op op_mod (pe_op op_add (pv 3) pe_int) pe_int) (fun _ _ => rfl))))
      (pss_one (ps_ret (pe_op op_mod (pe_op op_fdiv (pe_op op_mod (pe_op op_mul (pv 7) (pv 7)) pe_int) pe_int) (pv 1)))))))))))))), ?_⟩
    have hc' : SqL K H c (ns.map V.int) := sG.seq hc
    have mne : many ≠ 0 ∧ many.natAbs < 1073741824 := ⟨by omega, by omega⟩
    refine ⟨_, rfl, tp, _, _, _, rfl, rfl, SqL.of hT, rfl, _, _, rfl, rfl, _, rfl, ?_⟩
    refine ite2 (fun hl => ?_) (fun hl => ?_)
    · refine ⟨_, rfl, tp, _, _, _, rfl, rfl, SqL.of hT, rfl, _, rfl, _, _, rfl, rfl, m0, ?_⟩
      refine ⟨_, rfl, tp, _, _, _, rfl, rfl, SqL.of hT, rfl, _, rfl, _, _, rfl, rfl, mne, _, rfl, tp, _, _, 2, rfl, rfl, hT, rfl, ?_⟩
      refine ⟨_, rfl, ?_⟩
      refine k _ _ (Int.emod_nonneg _ (by omega)) (Int.emod_lt_of_pos _ m0) But.mut ?_
      refine Tape.step sG gt hc h0 (by omega) ?_
      rw [Int.fdiv_eq_ediv_of_nonneg _ (by omega)]
      exact Int.ediv_nonneg h2 (by omega)
    · refine ⟨_, rfl, tp, _, _, _, rfl, rfl, SqL.of hT, rfl, ?_⟩
      refine ⟨_, rfl, _, _, rfl, rfl, _, rfl, tp, _, _, 1, rfl, rfl, hT, rfl, ?_⟩
      generalize hH1 : upd H tp _ = H1
      have hT1 : H1 tp = some (.lst [.ref c, .int (at0 + 1), .int left]) := by rw [← hH1]; exact upd_same
      have sG1 : Same G H1 := by rw [← hH1]; exact same_mut sG gt
      have hc1 : SqL K H1 c (ns.map V.int) := sG1.seq hc
      have bt1 : But tp H H1 := by rw [← hH1]; exact But.mut
      dsimp only
      refine asgc_step ?_
      refine seq_have (fun σ H' => ∃ cell : Int, σ = [some (.ref tp), some (.int many), none, some (.int at0), some (.int cell), none, none, none] ∧ Same G H' ∧ But tp H H' ∧ H' tp = some (.lst [.ref c, .int (at0 + 1), .int left])) ?_ ?_
      · rintro σ H2 ⟨cell, rfl, sG2, bt2, hT2⟩
        have hc2 : SqL K H2 c (ns.map V.int) := sG2.seq hc
        refine seq_have (fun σ H' => σ = [some (.ref tp), some (.int many), none, some (.int at0), some (.int cell), none, none, none] ∧ H2 = H') ?_ ?_
        · rintro σ H' ⟨rfl, rfl⟩
          refine ⟨(by show 5 ≤ sizeLine; decide), fun p hp => ?_⟩
          have hT3 : (upd H2 p (.lst [.int 2147483647, .int 2147483629, .int 2147483587, .int 2147483579, .int 2147483563])) tp = some (.lst [.ref c, .int (at0 + 1), .int left]) := by
            rw [upd_ne (ne_of_none hT2 hp)]
            exact hT2
          have sG3 : Same G (upd H2 p (.lst [.int 2147483647, .int 2147483629, .int 2147483587, .int 2147483579, .int 2147483563])) := sG2.trans (same_new hp)
          have five : ∀ i : Int, ∃ q : Int, atI ([.int 2147483647, .int 2147483629, .int 2147483587, .int 2147483579, .int 2147483563] : List V) (i % 5) = some (.int q) ∧ 2000000000 < q ∧ q < 2147483648 := fun i => by
            have e1 := Int.emod_nonneg i (show (5 : Int) ≠ 0 by decide)
            have e2 := Int.emod_lt_of_pos i (show (0 : Int) < 5 by decide)
            have e3 : i % 5 = 0 ∨ i % 5 = 1 ∨ i % 5 = 2 ∨ i % 5 = 3 ∨ i % 5 = 4 := by omega
            rcases e3 with e | e | e | e | e <;> rw [e] <;> exact ⟨_, rfl, by decide, by decide⟩
          obtain ⟨q1, a1, b1, b2⟩ := five at0
          obtain ⟨q2, a2, b3, b4⟩ := five (at0 + 2)
          refine ⟨_, rfl, _, rfl, _, _, rfl, rfl, (by show (0 : Int) < 5; decide), p, _, _, _, rfl, rfl, SqL.of upd_same, a1, ?_⟩
          have c1 := Int.emod_nonneg cell (show q1 ≠ 0 by omega)
          have c2 := Int.emod_lt_of_pos cell (show 0 < q1 by omega)
          refine ⟨_, rfl, _, rfl, _, _, rfl, rfl, (by show 0 < q1; omega), _, _, rfl, rfl, .inr ⟨by decide, by decide⟩, _, rfl, _, _, rfl, rfl, .inl ⟨by decide, by decide⟩, _, rfl, _, _, rfl, rfl, .inr ⟨by omega, by omega⟩, _, _, rfl, rfl, _, rfl, _, _, rfl, rfl, .inl ⟨by decide, by decide⟩,
            _, _, rfl, rfl, _, _, rfl, rfl, _, rfl, _, _, rfl, rfl, (by show 0 < q1; omega), ?_⟩
          dsimp only
          generalize hm : (cell % q1 * 48271 + 7919 * at0 * at0 + 69621 * at0 + 1) % q1 = mix
          have d1 : 0 ≤ mix := by rw [← hm]; exact Int.emod_nonneg _ (by omega)
          have d2 : mix < q1 := by rw [← hm]; exact Int.emod_lt_of_pos _ (by omega)
          refine ⟨_, rfl, _, rfl, _, _, rfl, rfl, _, _, rfl, rfl, .inl ⟨by omega, by omega⟩, _, rfl, _, rfl, _, _, rfl, rfl, _, _, rfl, rfl, (by show (0 : Int) < 5; decide), p, _, _, _, rfl, rfl, SqL.of upd_same, a2, _, _, rfl, rfl, (by show 0 < q2; omega), ?_⟩
          dsimp only
          generalize hm2 : mix * (mix + 16807) % q2 = mix2
          have d3 : 0 ≤ mix2 := by rw [← hm2]; exact Int.emod_nonneg _ (by omega)
          have d4 : mix2 < q2 := by rw [← hm2]; exact Int.emod_lt_of_pos _ (by omega)
          refine ⟨_, rfl, _, rfl, _, _, rfl, rfl, .inl ⟨by omega, by omega⟩, _, _, rfl, rfl, (by show (0 : Int) < 2147483549; decide), _, _, rfl, rfl, ⟨by decide, by decide⟩, _, rfl, _, _, rfl, rfl, m0, ?_⟩
          refine k _ _ (Int.emod_nonneg _ (by omega)) (Int.emod_lt_of_pos _ m0) (bt2.trans (But.new hp)) ⟨sG3, gt, c, ns, at0 + 1, left, hc, hT3, by omega, by omega, h2⟩
        · intro rest
          refine ⟨_, rfl, _, rfl, tp, _, _, _, rfl, rfl, SqL.of hT2, rfl, c, _, rfl, .inl hc2, _, _, rfl, rfl, _, rfl, ?_⟩
          refine ite2 (fun _ => ?_) (fun _ => iteF (rest _ _ ⟨rfl, rfl⟩))
          refine ⟨_, rfl, _, rfl, _, _, rfl, rfl, ⟨by decide, by decide, by decide⟩, _, _, rfl, rfl, _, rfl, ?_⟩
          refine ite2 (fun hb => ?_) (fun _ => rest _ _ ⟨rfl, rfl⟩)
          have hb' := of_decide_eq_true hb
          refine ⟨_, rfl, _, rfl, _, _, rfl, rfl, ⟨by decide, by decide, by decide⟩, _, _, rfl, rfl, _, rfl, _, _, rfl, rfl, mne, _, rfl, tp, _, _, 2, rfl, rfl, hT2, rfl, ?_⟩
          refine ⟨_, rfl, _, rfl, _, _, rfl, rfl, ⟨by decide, by decide, by decide⟩, _, _, rfl, rfl, _, rfl, _, _, rfl, rfl, m0, ?_⟩
          refine k _ _ (Int.emod_nonneg _ (by omega)) (Int.emod_lt_of_pos _ m0) (bt2.trans But.mut) ?_
          refine Tape.step sG2 gt hc (by omega) (by omega) ?_
          rw [Int.fdiv_eq_ediv_of_nonneg _ (by omega)]
          exact Int.ediv_nonneg (by omega) (by omega)
      · intro rest
        refine ⟨_, rfl, tp, _, _, _, rfl, rfl, SqL.of hT1, rfl, Nat.zero_le _, fun p hp => ?_⟩
        refine ⟨.list (ns.map .int), .list [], .lst ((sG1.trans (same_new hp)).seq hc) (dp_ints ns), .lst (SqL.of upd_same) .nil, shaped_ints ns, rfl, _, rfl, ?_⟩
        have hT2 : (upd H1 p (.lst [])) tp = some (.lst [.ref c, .int (at0 + 1), .int left]) := by
          rw [upd_ne (ne_of_none hT1 hp)]
          exact hT1
        have sG2 : Same G (upd H1 p (.lst [])) := sG1.trans (same_new hp)
        refine ite2 (fun hb => ?_) (fun _ => rest _ _ ⟨0, rfl, sG2, bt1.trans (But.new hp), hT2⟩)
        have hne : 0 < ns.length := by
          cases ns with
          | nil => exact absurd hb (by decide)
          | cons x y => exact Nat.succ_pos _
        obtain ⟨v, hv⟩ := atI_mod (ns := ns) (i := at0 % (ns.length : Int)) (Int.emod_nonneg _ (by omega)) (Int.emod_lt_of_pos _ (by omega))
        refine ⟨_, rfl, tp, _, _, _, rfl, rfl, SqL.of hT2, rfl, _, rfl, _, rfl, tp, _, _, _, rfl, rfl, SqL.of hT2, rfl, c, _, rfl, .inl (sG2.seq hc), _, _, rfl, rfl, (by show (0 : Int) < ((ns.map V.int).length : Int); rw [List.length_map]; omega), c, _, _, _, rfl, rfl, sG2.seq hc, (by rw [List.length_map]; exact hv), ?_⟩
        exact rest _ _ ⟨v, rfl, sG2, bt1.trans (But.new hp), hT2⟩

def sp__law_tape (K : PySem.W.Frag) : Sp := fun vs H Q _ => ∃ (a : Addr) (ns : List Int), vs = [.ref a] ∧ SqL K H a (ns.map V.int) ∧ ∀ tp G H', Same H G → Tape K G H' tp 0 → Q (.ref tp) H'

theorem ok__law_tape {P : Program} {w : World} {K : PySem.W.Frag} {mg : Str → Option Value} {base : Heap} {f : Addr} {fd : FuncData} (T : Txt K mg) (F : Fun K "_law_tape" "_law_tape" s__law_tape f fd)
     : FnOk P w K mg base CX0 1 f fd ps__law_tape (sp__law_tape K) := by
  refine F.ok sc__law_tape (fun vs H Q E h => ?_) (fun cdv A outer s H vs Q E hr h => ?_)
  · obtain ⟨a, ns, rfl, hS, k⟩ := h
    rfl
  · obtain ⟨a, ns, rfl, hS, k⟩ := h
    refine ⟨_, (pss_one (ps_ret (pe_lst (pa_cons (pe_callTy (call_listK K) (by rfl) T.b_list (by decide +kernel) (pa_cons (pe_slice (sl_listK K) (pv 0) po_none (po_some pe_int)) pa_nil)) (pa_cons pe_int (pa_cons pe_int pa_nil)))))), ?_⟩
    refine ⟨_, rfl, _, rfl, a, _, rfl, hS, fun p1 n1 => ?_⟩
    obtain ⟨ms, em⟩ := cutV_ints ns none (some 63)
    rw [em]
    refine ⟨p1, _, rfl, .inl (SqL.of upd_same), fun p2 n2 => ?_⟩
    refine ⟨(by show 3 ≤ sizeLine; decide), fun p3 n3 => ?_⟩
    refine k p3 _ _ ((same_new n1).trans (same_new n2)) ⟨same_new n3, n3, p2, ms, 0, 0, SqL.of upd_same, upd_same, by decide, by decide, by decide⟩

def SIG : Str := (" !\"#$&'()*+,-./0123456789:;<=>?@ABCDEFGHIJKLMNOPQRSTUVWXYZ[\\]^_" : Str) ++ ("`abcdefghijklmnopqrstuvwxyz{|}~" : Str)
theorem sig_len : SIG.length = 94 := by decide +kernel
def sp__law_signs : Sp := fun vs H Q _ => vs = [] ∧ Q (.str SIG) H

theorem ok__law_signs {P : Program} {w : World} {K : PySem.W.Frag} {mg : Str → Option Value} {base : Heap} {f : Addr} {fd : FuncData} (T : Txt K mg) (F : Fun K "_law_signs" "_law_signs" s__law_signs f fd)
     : FnOk P w K mg base CX0 1 f fd ps__law_signs (sp__law_signs) := by
  refine F.ok sc__law_signs (fun vs H Q E h => ?_) (fun cdv A outer s H vs Q E hr h => ?_)
  · obtain ⟨rfl, k⟩ := h
    rfl
  · obtain ⟨rfl, k⟩ := h
    refine ⟨_, (pss_cons (ps_set (i := 0) sc__law_signs.nd rfl (Or.inl rfl) pe_str)
      (pss_one (ps_ret (pe_op op_add_str (pv 0) pe_str)))), ?_⟩
    exact ⟨_, rfl, _, _, rfl, rfl, (by decide +kernel), k⟩

/-! ### marks: the mathematics -/
def stepN (m c : Nat) : Nat := ((m * 33 + c) ^^^ ((m * 33 + c) / 128)) % 65536
def rowN (m : Nat) (r : Str) : Nat := (r.cps.toList ++ [10]).foldl stepN m
def markN (rows : List Str) : Nat := rows.foldl rowN 40503
theorem step_eq (m c : Nat) : Builtin.bitAnd (Builtin.bitXor ((m : Int) * 33 + (c : Int)) (((m : Int) * 33 + (c : Int)) / 2 ^ (7 : Int).toNat)) 65535 = ((stepN m c : Nat) : Int) := by
  have e : (m : Int) * 33 + (c : Int) = ((m * 33 + c : Nat) : Int) := by omega
  have e2 : ((m * 33 + c : Nat) : Int) / 2 ^ (7 : Int).toNat = (((m * 33 + c) / 128 : Nat) : Int) := by
    show ((m * 33 + c : Nat) : Int) / 128 = _
    omega
  rw [e, e2, Bits.bitXor_pp (by omega) (by omega), Int.toNat_natCast, Int.toNat_natCast, show (65535 : Int) = 2 ^ 16 - 1 by decide, Bits.bitAnd_mask 16 (by omega)]
  unfold stepN
  show (((m * 33 + c) ^^^ ((m * 33 + c) / 128) : Nat) : Int) % 65536 = _
  omega
theorem stepN_lt (m c : Nat) : stepN m c < 65536 := Nat.mod_lt _ (by decide)
theorem foldl_lt {l : List Nat} : ∀ {m : Nat}, m < 65536 → l.foldl stepN m < 65536 := by
  induction l with
  | nil => exact fun h => h
  | cons c l ih => exact fun _ => ih (stepN_lt _ _)
theorem rows_lt {rows : List Str} : ∀ {m : Nat}, m < 65536 → rows.foldl rowN m < 65536 := by
  induction rows with
  | nil => exact fun h => h
  | cons c l ih => exact fun h => ih (foldl_lt h)
theorem foldl_take {α β : Type} (f : β → α → β) (b : β) {xs : List α} {i : Nat} {x : α} (h : xs[i]? = some x) : (xs.take (i + 1)).foldl f b = f ((xs.take i).foldl f b) x := by
  rw [List.take_add_one, h, List.foldl_append] <;> rfl
theorem xor_step (x y : Nat) : x ^^^ y = (if x % 2 = y % 2 then 0 else 1) + 2 * ((x / 2) ^^^ (y / 2)) := by
  have h1 : (x ^^^ y) / 2 = x / 2 ^^^ y / 2 := Nat.xor_div_two
  have h2 : (x ^^^ y) % 2 = (x % 2) ^^^ (y % 2) := Nat.xor_mod_two_pow (n := 1)
  have h3 := Nat.div_add_mod (x ^^^ y) 2
  rw [h1, h2] at h3
  have ex : x % 2 = 0 ∨ x % 2 = 1 := by omega
  have ey : y % 2 = 0 ∨ y % 2 = 1 := by omega
  rcases ex with ex | ex <;> rcases ey with ey | ey <;> rw [ex, ey] at h3 ⊢ <;> simp at h3 ⊢ <;> omega


def sp_mark_of (K : PySem.W.Frag) : Sp := fun vs H Q _ => ∃ (a : Addr) (rows : List Str), vs = [.ref a] ∧ SqL K H a (rows.map V.str) ∧ (∀ r ∈ rows, Tx 2000 r) ∧ ∀ H', Same H H' → Q (.int (markN rows : Nat)) H'

theorem ok_mark_of {P : Program} {w : World} {K : PySem.W.Frag} {mg : Str → Option Value} {base : Heap} {f : Addr} {fd : FuncData} (T : Txt K mg) (F : Fun K "mark_of" "mark_of" s_mark_of f fd)
     : FnOk P w K mg base CX0 1 f fd ps_mark_of (sp_mark_of K) := by
  refine F.ok sc_mark_of (fun vs H Q E h => ?_) (fun cdv A outer s H vs Q E hr h => ?_)
  · obtain ⟨a, rows, rfl, hS, hR, k⟩ := h
    rfl
  · obtain ⟨a, rows, rfl, hS, hR, k⟩ := h
    refine ⟨_, (pss_cons (ps_set (i := 1) sc_mark_of.nd rfl (Or.inl rfl) (pe_g T.g_FIRST))
      (pss_cons (ps_for PassesOwn.never rfl (pi_listK K (pv 0)) (pg_name (i := 2) sc_mark_of.nd rfl (Or.inl rfl))
      (pss_one (ps_for PassesOwn.never rfl (pi_str (pe_op op_add_str (pv 2) pe_str)) (pg_name (i := 3) sc_mark_of.nd rfl (Or.inl rfl))
      (pss_cons (ps_aug (i := 1) sc_mark_of.nd rfl (Or.inl rfl) pe_int iop_mul)
      (pss_cons (ps_aug (i := 1) sc_mark_of.nd rfl (Or.inl rfl) (pe_callB call_ord (by rfl) T.b_ord (by decide +kernel) (pa_cons (pv 3) pa_nil)) ip_add)
      (pss_cons (ps_aug (i := 1) sc_mark_of.nd rfl (Or.inl rfl) (pe_op op_shr (pv 1) pe_int) iop_xor)
      (pss_one (ps_aug (i := 1) sc_mark_of.nd rfl (Or.inl rfl) pe_int iop_and))))))))
      (pss_one (ps_ret (pv 1))))), ?_⟩
    refine ⟨_, rfl, a, rfl, ⟨_, hS⟩, for_it walk_list (fun i σ H' => ∃ t2 t3 : Option V, σ = [some (.ref a), some (.int (((rows.take i).foldl rowN 40503 : Nat) : Int)), t2, t3] ∧ Same H H') ⟨none, none, rfl, Same.refl H⟩ (fun _ _ _ _ h => by obtain ⟨_, _, _, s⟩ := h; exact s.seq hS) ?_ ?_⟩
    · rintro i x σ H1 H1' hi ⟨t2, t3, rfl, s1⟩ ⟨rfl, hx⟩
      rw [List.getElem?_map] at hx
      obtain ⟨r, hr', rfl⟩ := Option.map_eq_some_iff.mp hx
      have tr := hR r (List.mem_of_getElem? hr')
      generalize hm : (rows.take i).foldl rowN 40503 = m0
      refine ⟨_, rfl, _, _, rfl, rfl, tr.fit (Tx.lit (n := 1) "\n" (by decide)), _, rfl, for_it walk_str (fun j σ H' => ∃ t3 : Option V, σ = [some (.ref a), some (.int ((((r.cps.toList ++ [10]).take j).foldl stepN m0 : Nat) : Int)), some (.str r), t3] ∧ Same H H') ⟨t3, rfl, s1⟩ (fun _ _ _ _ _ => trivial) ?_ ?_⟩
      · rintro j x σ H2 H2' hj ⟨t3, rfl, s2⟩ ⟨rfl, c, hc, rfl⟩
        have hc' : (r.cps.toList ++ [10])[j]? = some c := by
          have e : (r ++ Str.ofString "\n").cps.toList = r.cps.toList ++ [10] := by rw [toList_add, nl_eq]
          rw [← e, Array.getElem?_toList]
          exact hc
        generalize hq : ((r.cps.toList ++ [10]).take j).foldl stepN m0 = m
        refine ⟨_, rfl, _, _, rfl, rfl, .inr ⟨by decide, by decide⟩, ?_⟩
        refine ⟨_, rfl, _, rfl, _, rfl, rfl, _, _, rfl, rfl, ?_⟩
        refine ⟨_, rfl, _, rfl, _, _, rfl, rfl, (by show (0 : Int) ≤ 7; decide), _, _, rfl, rfl, ?_⟩
        refine ⟨_, rfl, _, _, rfl, rfl, ?_⟩
        refine ⟨some (.str ⟨#[c]⟩), ?_, s2⟩
        rw [foldl_take _ _ hc', hq, ← step_eq] <;> rfl
      · rintro σ H2 ⟨t3, rfl, s2⟩
        refine ⟨some (.str r), t3, ?_, s2⟩
        rw [foldl_take _ _ hr', hm]
        have e : (r ++ Str.ofString "\n").cps.size = (r.cps.toList ++ [10]).length := by
          rw [← Array.length_toList, toList_add, nl_eq]
        rw [e, List.take_length] <;> rfl
    · rintro σ H1 ⟨t2, t3, rfl, s1⟩
      refine ⟨_, rfl, ?_⟩
      rw [List.length_map, List.take_length]
      exact k _ s1

def sp__law_joined : Sp := fun vs H Q _ => ∃ (x y : Nat), vs = [.int x, .int y] ∧ ∀ H', Same H H' → Q (.int ((x ^^^ y : Nat) : Int)) H'
def JoinI (x y : Nat) (H : Hp) (m : Nat) (σ : L2.St) (H' : Hp) : Prop := ∃ (p q f w : Nat), σ = [some (.int p), some (.int q), some (.int f), some (.int w)] ∧ Same H H' ∧ m = p + q ∧ f + w * (p ^^^ q) = x ^^^ y
theorem JoinI.next {x y : Nat} {H H' : Hp} {p q f f' w : Nat} (s : Same H H') (hf : f + w * (p ^^^ q) = x ^^^ y) (h0 : 0 < p ∨ 0 < q) (e : f' = if p % 2 = q % 2 then f else f + w) :
    ∃ m', m' < p + q ∧ JoinI x y H m' [some (.int ((p : Int) / 2)), some (.int ((q : Int) / 2)), some (.int (f' : Int)), some (.int ((w : Int) * 2))] H' := by
  refine ⟨p / 2 + q / 2, by omega, p / 2, q / 2, f', w * 2, by simp, s, rfl, ?_⟩
  rw [← hf, xor_step p q, e]
  by_cases h : p % 2 = q % 2
  · rw [if_pos h, if_pos h, Nat.zero_add, Nat.mul_assoc]
  · rw [if_neg h, if_neg h, Nat.mul_add, Nat.mul_one, Nat.mul_assoc, Nat.add_assoc]

theorem ok__law_joined {P : Program} {w : World} {K : PySem.W.Frag} {mg : Str → Option Value} {base : Heap} {f : Addr} {fd : FuncData} (T : Txt K mg) (F : Fun K "_law_joined" "_law_joined" s__law_joined f fd)
     : FnOk P w K mg base CX0 1 f fd ps__law_joined (sp__law_joined) := by
  refine F.ok sc__law_joined (fun vs H Q E h => ?_) (fun cdv A outer s H vs Q E hr h => ?_)
  · obtain ⟨x, y, rfl, k⟩ := h
    rfl
  · obtain ⟨x, y, rfl, k⟩ := h
    refine ⟨_, (pss_cons (ps_asg (pe_tup (pa_cons pe_int (pa_cons pe_int pa_nil))) (pg_tupK K (by rfl) (pgs_cons (pg_name (i := 2) sc__law_joined.nd rfl (Or.inl rfl)) (pgs_cons (pg_name (i := 3) sc__law_joined.nd rfl (Or.inl rfl)) pgs_nil))))
      (pss_cons (ps_while PassesOwn.never (PW.pt (pw_or (pt_cmpR op_gt (pv 0) pe_int (nomark _)) (pw_or1 (pt_cmpR op_gt (pv 1) pe_int (nomark _)))))
      (pss_cons (ps_if (pt_cmpR op_ne (pe_op op_mod (pv 0) pe_int) (pe_op op_mod (pv 1) pe_int) (nomark _))
      (pss_one (ps_set (i := 2) sc__law_joined.nd rfl (Or.inl rfl) (pe_op op_add (pv 2) (pv 3))))
      pss_nil)
      (pss_one (ps_par3 (i := 0) (j := 1) (l := 3) (by rfl) sc__law_joined.nd rfl rfl rfl (by decide) (by decide) (by decide) rfl rfl rfl (pa_cons (pe_op op_fdiv (pv 0) pe_int) (pa_cons (pe_op op_fdiv (pv 1) pe_int) (pa_cons (pe_op op_mul (pv 3) pe_int) pa_nil))) (by rfl)))))
      (pss_one (ps_ret (pv 2))))), ?_⟩
    refine ⟨(by show 2 ≤ sizeLine; decide), fun t nt => ⟨t, _, rfl, SqT.of upd_same, rfl, _, _, rfl, _, _, rfl, rfl, ?_⟩⟩
    refine ⟨JoinI x y H, ⟨_, x, y, 0, 1, rfl, same_new nt, rfl, by omega⟩, ?_⟩
    rintro m σ H1 ⟨p, q, f, w, rfl, s1, rfl, hf⟩
    refine ⟨_, rfl, _, _, rfl, rfl, _, rfl, ?_⟩
    dsimp only
    refine ite2 (fun h1 => ?_) (fun h1 => ?_)
    · have h0 : 0 < p ∨ 0 < q := .inl (by have := of_decide_eq_true h1; omega)
      rw [if_pos rfl]
      refine ⟨_, fun _ _ h => h, ?_⟩
      refine ⟨_, rfl, _, _, rfl, rfl, (by show (0 : Int) < 2; decide), _, rfl, _, _, rfl, rfl, (by show (0 : Int) < 2; decide), rfl, _, rfl, ?_⟩
      dsimp only
      refine ite2 (fun h2 => ?_) (fun h2 => ?_)
      · refine ⟨_, rfl, _, rfl, _, _, rfl, rfl, ?_⟩
        refine ⟨_, rfl, _, _, rfl, rfl, ⟨by decide, by decide⟩, _, rfl, _, _, rfl, rfl, ⟨by decide, by decide⟩, _, rfl, _, _, rfl, rfl, .inr ⟨by decide, by decide⟩, _, _, _, rfl, ?_⟩
        have := JoinI.next (f' := f + w) s1 hf h0 (by rw [if_neg]; intro z; rw [decide_eq_true (show V.int ((p : Int) % 2) = V.int ((q : Int) % 2) from congrArg V.int (by omega))] at h2; exact absurd h2 (by decide))
        exact this
      · refine ⟨_, rfl, _, _, rfl, rfl, ⟨by decide, by decide⟩, _, rfl, _, _, rfl, rfl, ⟨by decide, by decide⟩, _, rfl, _, _, rfl, rfl, .inr ⟨by decide, by decide⟩, _, _, _, rfl, ?_⟩
        have := JoinI.next (f' := f) s1 hf h0 (by
          rw [if_pos]
          by_cases z : V.int ((p : Int) % 2) = V.int ((q : Int) % 2)
          · injection z with z
            omega
          · rw [decide_eq_false z] at h2
            exact absurd rfl h2)
        exact this
    · refine ⟨_, rfl, _, _, rfl, rfl, _, rfl, ?_⟩
      refine ite2 (fun h2 => ?_) (fun h2 => ?_)
      · have h0 : 0 < p ∨ 0 < q := .inr (by have := of_decide_eq_true h2; omega)
        refine ⟨_, fun _ _ h => h, ?_⟩
        refine ⟨_, rfl, _, _, rfl, rfl, (by show (0 : Int) < 2; decide), _, rfl, _, _, rfl, rfl, (by show (0 : Int) < 2; decide), rfl, _, rfl, ?_⟩
        dsimp only
        refine ite2 (fun h2 => ?_) (fun h2 => ?_)
        · refine ⟨_, rfl, _, rfl, _, _, rfl, rfl, ?_⟩
          refine ⟨_, rfl, _, _, rfl, rfl, ⟨by decide, by decide⟩, _, rfl, _, _, rfl, rfl, ⟨by decide, by decide⟩, _, rfl, _, _, rfl, rfl, .inr ⟨by decide, by decide⟩, _, _, _, rfl, ?_⟩
          have := JoinI.next (f' := f + w) s1 hf h0 (by rw [if_neg]; intro z; rw [decide_eq_true (show V.int ((p : Int) % 2) = V.int ((q : Int) % 2) from congrArg V.int (by omega))] at h2; exact absurd h2 (by decide))
          exact this
        · refine ⟨_, rfl, _, _, rfl, rfl, ⟨by decide, by decide⟩, _, rfl, _, _, rfl, rfl, ⟨by decide, by decide⟩, _, rfl, _, _, rfl, rfl, .inr ⟨by decide, by decide⟩, _, _, _, rfl, ?_⟩
          have := JoinI.next (f' := f) s1 hf h0 (by
            rw [if_pos]
            by_cases z : V.int ((p : Int) % 2) = V.int ((q : Int) % 2)
            · injection z with z
              omega
            · rw [decide_eq_false z] at h2
              exact absurd rfl h2)
          exact this
      · have hp : p = 0 := by
          have : ¬ (0 : Int) < p := fun z => h1 (decide_eq_true z)
          omega
        have hq : q = 0 := by
          have : ¬ (0 : Int) < q := fun z => h2 (decide_eq_true z)
          omega
        subst hp hq
        refine ⟨_, rfl, ?_⟩
        have e : f = x ^^^ y := by rw [← hf] <;> simp
        rw [e]
        exact k _ s1

def sp__law_mark (K : PySem.W.Frag) : Sp := fun vs H Q _ => ∃ (a : Addr) (rows : List Str), vs = [.ref a] ∧ SqL K H a (rows.map V.str) ∧ (∀ r ∈ rows, Tx 2000 r) ∧ ∀ H', Same H H' → Q (.int (markN rows : Nat)) H'
theorem step_eq2 (m c : Nat) : (((33 * m + c) ^^^ ((33 * m + c) / 128) : Nat) : Int) % 65536 = ((stepN m c : Nat) : Int) := by
  unfold stepN
  rw [Nat.mul_comm 33 m]
  omega
theorem signs_nl (r : Str) : (r.cps.toList.map fun c => V.str ⟨#[c]⟩) ++ [V.str (Str.ofString "\n")] = (r.cps.toList ++ [10]).map fun c => V.str ⟨#[c]⟩ := by
  rw [List.map_append, nl_eq] <;> rfl

theorem ok__law_mark {P : Program} {w : World} {K : PySem.W.Frag} {mg : Str → Option Value} {base : Heap} {f : Addr} {fd : FuncData} (T : Txt K mg) (F : Fun K "_law_mark" "_law_mark" s__law_mark f fd)
    {f__law_joined : Addr} {fd__law_joined : FuncData} (O__law_joined : OkF P w K mg base CX0 1 "_law_joined" ps__law_joined (sp__law_joined) f__law_joined fd__law_joined)
    (B__law_joined : Binds K fd__law_joined ps__law_joined []) : FnOk P w K mg base CX0 2 f fd ps__law_mark (sp__law_mark K) := by
  refine F.ok sc__law_mark (fun vs H Q E h => ?_) (fun cdv A outer s H vs Q E hr h => ?_)
  · obtain ⟨a, rows, rfl, hS, hR, k⟩ := h
    rfl
  · obtain ⟨a, rows, rfl, hS, hR, k⟩ := h
    refine ⟨_, (pss_cons (ps_set (i := 1) sc__law_mark.nd rfl (Or.inl rfl) pe_int)
      (pss_cons (ps_for PassesOwn.never rfl (pi_listK K (pv 0)) (pg_name (i := 2) sc__law_mark.nd rfl (Or.inl rfl))
      (pss_one (ps_for PassesOwn.never rfl (pi_listK K (pe_op op_cat (pe_callTy (call_listS rfl) (by rfl) T.b_list (by decide +kernel) (pa_cons (pv 2) pa_nil)) (pe_lst (pa_cons pe_str pa_nil)))) (pg_name (i := 3) sc__law_mark.nd rfl (Or.inl rfl))
      (pss_cons (ps_set (i := 1) sc__law_mark.nd rfl (Or.inl rfl) (pe_op op_add (pe_op op_mul pe_int (pv 1)) (pe_callB call_ord (by rfl) T.b_ord (by decide +kernel) (pa_cons (pv 3) pa_nil))))
      (pss_one (ps_set (i := 1) sc__law_mark.nd rfl (Or.inl rfl) (pe_op op_mod (pe_f O__law_joined B__law_joined (hr.mono (by decide)) pass0 (pa_cons (pv 1) (pa_cons (pe_op op_fdiv (pv 1) pe_int) pa_nil))) pe_int)))))))
      (pss_one (ps_ret (pv 1))))), ?_⟩
    refine ⟨_, rfl, a, rfl, ⟨_, hS⟩, for_it walk_list (fun i σ H' => ∃ t2 t3 : Option V, σ = [some (.ref a), some (.int (((rows.take i).foldl rowN 40503 : Nat) : Int)), t2, t3] ∧ Same H H') ⟨none, none, rfl, Same.refl H⟩ (fun _ _ _ _ h => by obtain ⟨_, _, _, s⟩ := h; exact s.seq hS) ?_ ?_⟩
    · rintro i x σ H1 H1' hi ⟨t2, t3, rfl, s1⟩ ⟨rfl, hx⟩
      rw [List.getElem?_map] at hx
      obtain ⟨r, hr', rfl⟩ := Option.map_eq_some_iff.mp hx
      have tr := hR r (List.mem_of_getElem? hr')
      generalize hm : (rows.take i).foldl rowN 40503 = m0
      refine ⟨_, rfl, _, rfl, tr.size, fun p1 n1 => ⟨(by show 1 ≤ sizeLine; decide), fun p2 n2 => ?_⟩⟩
      refine ⟨p1, p2, _, _, rfl, rfl, (same_new n2) _ _ upd_same, upd_same, ?_, fun p3 n3 => ?_⟩
      · rw [List.length_map, Array.length_toList]
        exact size_of (by have h : r.cps.size ≤ 2000 := tr.len; show _ + 1 ≤ _; omega)
      rw [signs_nl]
      have s3 := (s1.trans (same_new n1)).trans ((same_new n2).trans (same_new (o := .lst ((r.cps.toList ++ [10]).map fun c => V.str ⟨#[c]⟩)) n3))
      generalize hH3 : upd _ p3 _ = H3 at s3 ⊢
      have h3 : H3 p3 = some (.lst ((r.cps.toList ++ [10]).map fun c => V.str ⟨#[c]⟩)) := by rw [← hH3]; exact upd_same
      refine ⟨p3, rfl, ⟨_, SqL.of h3⟩, for_it walk_list (fun j σ H' => ∃ t3 : Option V, σ = [some (.ref a), some (.int ((((r.cps.toList ++ [10]).take j).foldl stepN m0 : Nat) : Int)), some (.str r), t3] ∧ Same H3 H') ⟨t3, rfl, Same.refl _⟩ (fun _ _ _ _ h => by obtain ⟨_, _, s⟩ := h; exact SqL.of (s _ _ h3)) ?_ ?_⟩
      · rintro j x σ H2 H2' hj ⟨t3, rfl, s2⟩ ⟨rfl, hx⟩
        rw [List.getElem?_map] at hx
        obtain ⟨c, hc', rfl⟩ := Option.map_eq_some_iff.mp hx
        generalize hq : ((r.cps.toList ++ [10]).take j).foldl stepN m0 = m
        refine ⟨_, rfl, _, _, rfl, rfl, .inl ⟨by decide, by decide⟩, _, rfl, _, rfl, rfl, _, _, rfl, rfl, ?_⟩
        have e1 : (33 : Int) * (m : Int) + (c : Int) = ((33 * m + c : Nat) : Int) := by omega
        have e2 : (33 * (m : Int) + (c : Int)) / 128 = (((33 * m + c) / 128 : Nat) : Int) := by omega
        refine ⟨_, rfl, _, rfl, _, _, rfl, rfl, ⟨by decide, by decide⟩, 33 * m + c, (33 * m + c) / 128, ?_, fun H4 s4 => ?_⟩
        · show [V.int (33 * (m : Int) + (c : Int)), V.int ((33 * (m : Int) + (c : Int)) / 128)] = _
          rw [e2, e1]
        refine ⟨_, _, rfl, rfl, (by show (0 : Int) < 65536; decide), ?_⟩
        refine ⟨some (.str ⟨#[c]⟩), ?_, s2.trans s4⟩
        rw [foldl_take _ _ hc', hq, ← step_eq2] <;> rfl
      · rintro σ H2 ⟨t3, rfl, s2⟩
        refine ⟨some (.str r), t3, ?_, s3.trans s2⟩
        rw [foldl_take _ _ hr', hm, List.length_map, List.take_length] <;> rfl
    · rintro σ H1 ⟨t2, t3, rfl, s1⟩
      refine ⟨_, rfl, ?_⟩
      rw [List.length_map, List.take_length]
      exact k _ s1

def sp__law_text (K : PySem.W.Frag) : Sp := fun vs H Q _ => ∃ (G : Hp) (tp : Addr) (n m : Nat), vs = [.ref tp, .int m] ∧ Tape K G H tp n ∧ n < 2 ^ 50 ∧ m ≤ 300 ∧
  ∀ y H', Tx m y → But tp H H' → Tape K G H' tp (n + 1000) → Q (.str y) H'
theorem sig_tx : Tx 94 SIG := ⟨by rw [sig_len] <;> decide, (Tx.add (Tx.lit _ (Nat.le_refl _)) (Tx.lit _ (Nat.le_refl _))).ok⟩

theorem ok__law_text {P : Program} {w : World} {K : PySem.W.Frag} {mg : Str → Option Value} {base : Heap} {f : Addr} {fd : FuncData} (T : Txt K mg) (F : Fun K "_law_text" "_law_text" s__law_text f fd)
    {f__law_signs : Addr} {fd__law_signs : FuncData} (O__law_signs : OkF P w K mg base CX0 1 "_law_signs" ps__law_signs (sp__law_signs) f__law_signs fd__law_signs)
    (B__law_signs : Binds K fd__law_signs ps__law_signs [])
    {f__law_draw : Addr} {fd__law_draw : FuncData} (O__law_draw : OkF P w K mg base CX0 1 "_law_draw" ps__law_draw (sp__law_draw K) f__law_draw fd__law_draw)
    (B__law_draw : Binds K fd__law_draw ps__law_draw []) : FnOk P w K mg base CX0 2 f fd ps__law_text (sp__law_text K) := by
  refine F.ok sc__law_text (fun vs H Q E h => ?_) (fun cdv A outer s H vs Q E hr h => ?_)
  · obtain ⟨G, tp, n, m, rfl, T0, hn, hm, k⟩ := h
    rfl
  · obtain ⟨G, tp, n, m, rfl, T0, hn, hm, k⟩ := h
    refine ⟨_, (pss_cons (ps_set (i := 2) sc__law_text.nd rfl (Or.inr rfl) (pe_f0 O__law_signs B__law_signs (hr.mono (by decide)) pass0))
      (pss_one (ps_ret (pe_joinK K pe_str (pe_lc (own := [("_law_k", 3)]) (g := gName 3) (tt := tYes) (by rfl) sc__law_text.nd (pi_range1 (by rfl) T.b_range (pa_cons (pe_f O__law_draw B__law_draw (hr.mono (by decide)) pass0 (pa_cons (pv 0) (pa_cons (pe_op op_add (pv 1) pe_int) pa_nil))) pa_nil)) (blkOk_by (own := [("_law_k", 3)]) (N := nm__law_text) (sc := defScope s__law_text) (by decide +kernel)) (fun _ _ _ _ _ => (pg_name (i := 3) sc__law_text.nd rfl (Or.inl rfl))) (fun _ _ _ _ _ => pts_nil) (fun _ _ _ _ _ => (pe_ix ix_str (pv 2) (pe_f O__law_draw B__law_draw (hr.mono (by decide)) pass0 (pa_cons (pv 0) (pa_cons (pe_callB call_len_str (by rfl) T.b_len (by decide +kernel) (pa_cons (pv 2) pa_nil)) pa_nil))) (fun _ _ => rfl)))))))), ?_⟩
    refine ⟨rfl, ?_⟩
    refine ⟨⟨_, rfl⟩, _, rfl, _, rfl, _, _, rfl, rfl, G, tp, n, _, rfl, T0, by omega, by omega, by omega, fun r1 H1 a1 b1 bt1 T1 => ?_⟩
    refine ⟨_, rfl, by omega, by omega, fun D nD => ?_⟩
    have neD : D ≠ tp := T1.ne nD
    have gD : G D = none := T1.free nD
    have hD0 : H D = none := bt1.free nD neD
    refine lc_it (walk_range (lo := 0)) (fun j H' => ∃ ys : List Str, ys.length = j ∧ (∀ y ∈ ys, Tx 1 y) ∧ But tp H H' ∧ Tape K G H' tp (n + 1 + j) ∧ H' D = some (.lst (ys.map V.str))) ?_ (fun _ _ _ _ => trivial) ?_ ?_
    · exact ⟨[], rfl, (fun y hy => by cases hy), bt1.trans (But.new nD), T1.new nD, upd_same⟩
    · rintro j x H3 H3' hj ⟨ys, hl, hy, bt3, T3, e3⟩ ⟨rfl, rfl⟩
      refine ⟨rfl, ?_⟩
      refine ⟨_, rfl, _, rfl, _, rfl, _, rfl, sig_tx.size, G, tp, _, _, rfl, T3, (by rw [sig_len]; decide), (by rw [sig_len]; decide), by omega, fun r H4 a4 b4 bt4 T4 => ?_⟩
      obtain ⟨c, hc, hcm⟩ := atI_some (xs := SIG.cps.toList) a4 (by rw [Array.length_toList]; exact b4)
      refine ⟨_, _, c, rfl, rfl, sig_tx.size, hc, _, bt4 _ _ neD e3, ?_, ys ++ [⟨#[c]⟩], ?_, ?_, ?_, (T4.mut gD neD).mono (by omega), ?_⟩
      · rw [List.length_map, hl]
        exact size_lt (by omega)
      · rw [List.length_append, hl] <;> rfl
      · intro y hy'
        rcases List.mem_append.mp hy' with q | q
        · exact hy y q
        · rw [List.mem_singleton.mp q]
          exact sig_tx.at hc
      · exact (bt3.trans bt4).mutN hD0
      · rw [List.map_append]
        exact upd_same
    · rintro H5 ⟨ys, hl, hy, bt5, T5, e5⟩
      have hl9 : ys.length ≤ m := by omega
      refine ⟨_, D, ys, rfl, rfl, .inl (SqL.of e5), ?_, k _ _ ((Tx.join0 hy).mono hl9) bt5 (T5.mono (by omega))⟩
      have := lens_le hy
      show _ + ys.length * 0 ≤ _
      omega

def sp__law_right (K : PySem.W.Frag) : Sp := fun vs H Q _ => ∃ (a : Addr) (rows : List Str), vs = [.ref a] ∧ SqL K H a (rows.map V.str) ∧ (∀ r ∈ rows, Tx 2000 r) ∧ rows.length ≤ 1000 ∧ ∀ H', Same H H' → Q (.bl true) H'

theorem ok__law_right {P : Program} {w : World} {K : PySem.W.Frag} {mg : Str → Option Value} {base : Heap} {f : Addr} {fd : FuncData} (T : Txt K mg) (F : Fun K "_law_right" "_law_right" s__law_right f fd)
    {f__law_mark : Addr} {fd__law_mark : FuncData} (O__law_mark : OkF P w K mg base CX0 2 "_law_mark" ps__law_mark (sp__law_mark K) f__law_mark fd__law_mark)
    (B__law_mark : Binds K fd__law_mark ps__law_mark [])
    {f_mark_of : Addr} {fd_mark_of : FuncData} (O_mark_of : OkF P w K mg base CX0 1 "mark_of" ps_mark_of (sp_mark_of K) f_mark_of fd_mark_of)
    (KB_mark_of_0_rows : KB K fd_mark_of ps_mark_of 0 ["rows"] (fun _ zs => zs)) : FnOk P w K mg base CX0 3 f fd ps__law_right (sp__law_right K) := by
  refine F.ok sc__law_right (fun vs H Q E h => ?_) (fun cdv A outer s H vs Q E hr h => ?_)
  · obtain ⟨a, rows, rfl, hS, hR, hl, k⟩ := h
    rfl
  · obtain ⟨a, rows, rfl, hS, hR, hl, k⟩ := h
    refine ⟨_, (pss_cons (ps_par (i := 1) (j := 2) (by rfl) sc__law_right.nd rfl rfl (by decide) rfl rfl (pa_cons (pe_f O__law_mark B__law_mark (hr.mono (by decide)) pass0 (pa_cons (pv 0) pa_nil)) (pa_cons (pe_callTy (call_listK K) (by rfl) T.b_list (by decide +kernel) (pa_cons (pv 0) pa_nil)) pa_nil)) (by rfl))
      (pss_cons (ps_for PassesOwn.never rfl (pi_range1 (by rfl) T.b_range (pa_cons pe_int pa_nil)) (pg_name (i := 3) sc__law_right.nd rfl (Or.inl rfl))
      (pss_cons (ps_set (i := 4) sc__law_right.nd rfl (Or.inl rfl) (pe_fK0 O_mark_of KB_mark_of_0_rows (hr.mono (by decide)) pass0 (pk_cons (pv 2) pk_nil)))
      (pss_one (ps_if (PW.pt (pw_or (pt_not (pt_val (pe_callB (call_isiKK K) (by rfl) T.b_isinstance (by decide +kernel) (pa_cons (pv 4) (pa_cons (pe_bltn (v := .ty "int") rfl T.b_int (by decide +kernel) rfl) pa_nil))))) (pw_or (pt_val (pe_callB (call_isiKK K) (by rfl) T.b_isinstance (by decide +kernel) (pa_cons (pv 4) (pa_cons (pe_bltn (v := .ty "bool") rfl T.b_bool (by decide +kernel) rfl) pa_nil)))) (pw_or (pt_cmpR op_ne (pv 4) (pv 1) (nomark _)) (pw_or1 (pt_cmpR (op_neDK K hr.units) (pv 2) (pv 0) (nomark _)))))))
      (pss_one (ps_ret pe_bl))
      pss_nil))))
      (pss_one (ps_ret pe_bl)))), ?_⟩
    have fine : Fine 1 (.list (rows.map PyData.str)) := fine_strs fun x hx => (hR x hx).strOk
    refine ⟨_, rfl, a, rows, rfl, hS, hR, fun H1 s1 => ?_⟩
    refine ⟨_, rfl, a, _, rfl, .inl (s1.seq hS), fun p np => ⟨_, _, rfl, ?_⟩⟩
    have s2 := s1.trans (same_new (o := .lst (rows.map V.str)) np)
    generalize hH2 : upd H1 p _ = H2 at s2 ⊢
    have hp : H2 p = some (.lst (rows.map V.str)) := by rw [← hH2]; exact upd_same
    refine ⟨_, rfl, (by decide), (by decide), for_it (walk_range (lo := 0) (n := 2)) (fun i σ H' => ∃ t3 t4 : Option V, σ = [some (.ref a), some (.int (markN rows : Nat)), some (.ref p), t3, t4] ∧ Same H2 H') ⟨none, none, rfl, Same.refl _⟩ (fun _ _ _ _ _ => trivial) ?_ ?_⟩
    · rintro i x σ H3 H3' hi ⟨t3, t4, rfl, s3⟩ ⟨rfl, rfl⟩
      refine ⟨_, rfl, rfl, rfl, p, rows, rfl, SqL.of (s3 _ _ hp), hR, fun H4 s4 => ?_⟩
      refine ⟨_, rfl, _, _, _, _, true, rfl, .ty _, .base (.int _), kit_ty (by decide +kernel), _, rfl, ?_⟩
      refine iteF ?_
      refine ⟨_, rfl, _, _, _, _, false, rfl, .ty _, .base (.int _), kit_ty (by decide +kernel), _, rfl, ?_⟩
      refine iteF ?_
      refine ⟨_, rfl, _, rfl, rfl, false, (by rw [decide_eq_true rfl] <;> rfl), ?_⟩
      refine iteF ?_
      refine ⟨_, rfl, _, rfl, .list (rows.map .str), .list (rows.map .str), .lst (SqL.of (s4 _ _ (s3 _ _ hp))) (dp_strs rows), .lst ((s2.trans (s3.trans s4)).seq hS) (dp_strs rows), fine.shaped, fine.shaped, false, (by rw [eqv_refl fine] <;> rfl), ?_⟩
      refine iteF ?_
      exact ⟨_, _, rfl, s3.trans s4⟩
    · rintro σ H3 ⟨t3, t4, rfl, s3⟩
      exact k _ (s2.trans s3)

def sp__law_near (K : PySem.W.Frag) : Sp := fun vs H Q _ => ∃ (G : Hp) (tp a : Addr) (n : Nat) (rows : List Str), vs = [.ref tp, .ref a] ∧ Tape K G H tp n ∧ n < 2 ^ 50 ∧ SqL K G a (rows.map V.str) ∧ (∀ r ∈ rows, Tx 300 r) ∧ rows.length ≤ 100 ∧
  ∀ (p : Addr) (ys : List Str) (H' : Hp), H' p = some (.lst (ys.map V.str)) → (∀ y ∈ ys, Tx 700 y) → ys.length ≤ 400 → Tape K G H' tp (n + 2000) → Q (.ref p) H'
theorem mem_cut {ys zs : List Str} (h : ∀ y ∈ ys, Tx 300 y) (hz : ∀ z ∈ zs, z ∈ ys) : ∀ z ∈ zs, Tx 700 z := fun z q => (h z (hz z q)).mono (by decide)
theorem app_tx {ys zs : List Str} (h : ∀ y ∈ ys, Tx 700 y) (h' : ∀ y ∈ zs, Tx 700 y) : ∀ y ∈ ys ++ zs, Tx 700 y := fun y q => (List.mem_append.mp q).elim (h y) (h' y)
theorem four {w : Int} {a b c d : V} (h0 : 0 ≤ w) (h1 : w < 4) : ∃ v, atI [a, b, c, d] w = some v ∧ (v = a ∨ v = b ∨ v = c ∨ v = d) := by
  have h : w = 0 ∨ w = 1 ∨ w = 2 ∨ w = 3 := by omega
  rcases h with rfl | rfl | rfl | rfl
  · exact ⟨a, rfl, .inl rfl⟩
  · exact ⟨b, rfl, .inr (.inl rfl)⟩
  · exact ⟨c, rfl, .inr (.inr (.inl rfl))⟩
  · exact ⟨d, rfl, .inr (.inr (.inr rfl))⟩
theorem Tx.join {n : Nat} : ∀ {ys : List Str}, (∀ y ∈ ys, Tx n y) → Tx (ys.length * n) (Txt.join (Str.ofString "") ys)
  | [], _ => by
    rw [TL.join_eq]
    exact Tx.empty.mono (Nat.zero_le _)
  | [x], h => by
    rw [TL.join_eq]
    exact (h x List.mem_cons_self).mono (by simp)
  | x :: z :: r, h => by
    have ih := Tx.join (ys := z :: r) fun y hy => h y (List.mem_cons_of_mem _ hy)
    rw [TL.join_eq] at ih ⊢
    show Tx _ (x ++ ("" : Str) ++ Str.join ("" : Str) (z :: r))
    exact (((h x List.mem_cons_self).add Tx.empty).add ih).mono (by rw [List.length_cons, List.length_cons, List.length_cons, Nat.succ_mul, Nat.succ_mul, Nat.succ_mul]; omega)

theorem ok__law_near {P : Program} {w : World} {K : PySem.W.Frag} {mg : Str → Option Value} {base : Heap} {f : Addr} {fd : FuncData} (T : Txt K mg) (F : Fun K "_law_near" "_law_near" s__law_near f fd)
    {f__law_draw : Addr} {fd__law_draw : FuncData} (O__law_draw : OkF P w K mg base CX0 1 "_law_draw" ps__law_draw (sp__law_draw K) f__law_draw fd__law_draw)
    (B__law_draw : Binds K fd__law_draw ps__law_draw [])
    {f__law_text : Addr} {fd__law_text : FuncData} (O__law_text : OkF P w K mg base CX0 2 "_law_text" ps__law_text (sp__law_text K) f__law_text fd__law_text)
    (B__law_text : Binds K fd__law_text ps__law_text [])
    {f__law_signs : Addr} {fd__law_signs : FuncData} (O__law_signs : OkF P w K mg base CX0 1 "_law_signs" ps__law_signs (sp__law_signs) f__law_signs fd__law_signs)
    (B__law_signs : Binds K fd__law_signs ps__law_signs []) : FnOk P w K mg base CX0 3 f fd ps__law_near (sp__law_near K) := by
  refine F.ok sc__law_near (fun vs H Q E h => ?_) (fun cdv A outer s H vs Q E hr h => ?_)
  · obtain ⟨G, tp, a, n, rows, rfl, T0, hn, hS, hR, hl, k⟩ := h
    rfl
  · obtain ⟨G, tp, a, n, rows, rfl, T0, hn, hS, hR, hl, k⟩ := h
    refine ⟨_, (pss_cons (ps_set (i := 2) sc__law_near.nd rfl (Or.inl rfl) (pe_callTy (call_listK K) (by rfl) T.b_list (by decide +kernel) (pa_cons (pv 1) pa_nil)))
      (pss_cons (ps_if (pt_cmpR (op_eqDK K hr.units) (pv 2) (pe_lst pa_nil) (nomark _))
      (pss_one (ps_ret (pe_lst (pa_cons (pe_f O__law_text B__law_text (hr.mono (by decide)) pass0 (pa_cons (pv 0) (pa_cons pe_int pa_nil))) pa_nil))))
      pss_nil)
      (pss_cons (ps_set (i := 3) sc__law_near.nd rfl (Or.inl rfl) (pe_f O__law_draw B__law_draw (hr.mono (by decide)) pass0 (pa_cons (pv 0) (pa_cons (pe_callB (call_lenK K) (by rfl) T.b_len (by decide +kernel) (pa_cons (pv 2) pa_nil)) pa_nil))))
      (pss_cons (ps_par (i := 4) (j := 5) (by rfl) sc__law_near.nd rfl rfl (by decide) rfl rfl (pa_cons (pe_ix (ix_listK K) (pv 2) (pv 3) (fun _ _ => rfl)) (pa_cons (pe_f O__law_draw B__law_draw (hr.mono (by decide)) pass0 (pa_cons (pv 0) (pa_cons pe_int pa_nil))) pa_nil)) (by rfl))
      (pss_cons (ps_par (i := 6) (j := 7) (by rfl) sc__law_near.nd rfl rfl (by decide) rfl rfl (pa_cons (pe_f O__law_draw B__law_draw (hr.mono (by decide)) pass0 (pa_cons (pv 0) (pa_cons (pe_op op_add (pe_callB call_len_str (by rfl) T.b_len (by decide +kernel) (pa_cons (pv 4) pa_nil)) pe_int) pa_nil))) (pa_cons (pe_ix ix_str (pe_f0 O__law_signs B__law_signs (hr.mono (by decide)) pass0) (pe_f O__law_draw B__law_draw (hr.mono (by decide)) pass0 (pa_cons (pv 0) (pa_cons pe_int pa_nil))) (fun _ _ => rfl)) pa_nil)) (by rfl))
      (pss_cons (ps_if (pt_cmpR op_lt (pv 5) pe_int (nomark _))
      (pss_cons (ps_asg (pe_ix (ix_listK K) (pe_lst (pa_cons (pe_op op_add_str (pe_op op_add_str (pe_slice sl_str (pv 4) po_none (po_some (pv 6))) (pv 7)) (pe_slice sl_str (pv 4) (po_some (pe_op op_add (pv 6) pe_int)) po_none)) (pa_cons (pe_op op_add_str (pe_slice sl_str (pv 4) po_none (po_some (pv 6))) (pe_slice sl_str (pv 4) (po_some (pe_op op_add (pv 6) pe_int)) po_none)) (pa_cons (pe_op op_add_str (pe_op op_add_str (pe_slice sl_str (pv 4) po_none (po_some (pv 6))) (pv 7)) (pe_slice sl_str (pv 4) (po_some (pv 6)) po_none)) (pa_cons (pe_revS (pv 4)) pa_nil))))) (pv 5) (fun _ _ => rfl)) (pg_sub (pv 2) (pv 3) set_list))
      (pss_one (ps_ret (pv 2))))
      pss_nil)
      (pss_cons (ps_if (pt_cmpR op_eq (pv 5) pe_int (nomark _))
      (pss_one (ps_ret (pe_op op_cat (pe_slice (sl_listK K) (pv 2) po_none (po_some (pv 3))) (pe_slice (sl_listK K) (pv 2) (po_some (pe_op op_add (pv 3) pe_int)) po_none))))
      pss_nil)
      (pss_cons (ps_if (pt_cmpR op_eq (pv 5) pe_int (nomark _))
      (pss_one (ps_ret (pe_op op_cat (pe_op op_cat (pe_slice (sl_listK K) (pv 2) po_none (po_some (pv 3))) (pe_lst (pa_cons (pe_joinK K pe_str (pe_slice (sl_listK K) (pv 2) (po_some (pv 3)) (po_some (pe_op op_add (pv 3) pe_int)))) pa_nil))) (pe_slice (sl_listK K) (pv 2) (po_some (pe_op op_add (pv 3) pe_int)) po_none))))
      pss_nil)
      (pss_one (ps_ret (pe_op op_cat (pe_op op_cat (pe_slice (sl_listK K) (pv 2) po_none (po_some (pv 3))) (pe_revLK K (pe_slice (sl_listK K) (pv 2) (po_some (pv 3)) (po_some (pe_op op_add (pv 3) pe_int))))) (pe_slice (sl_listK K) (pv 2) (po_some (pe_op op_add (pv 3) pe_int)) po_none)))))))))))), ?_⟩
    have fine : Fine 1 (.list (rows.map PyData.str)) := fine_strs fun x hx => (hR x hx).strOk
    refine ⟨_, rfl, a, _, rfl, .inl (T0.1.seq hS), fun p np => ?_⟩
    have nep : p ≠ tp := T0.ne np
    have gp : G p = none := T0.free np
    have T1 := T0.new (o := .lst (rows.map V.str)) np
    generalize hH1 : upd H p _ = H1 at T1 ⊢
    have hp : H1 p = some (.lst (rows.map V.str)) := by rw [← hH1]; exact upd_same
    refine ⟨_, rfl, Nat.zero_le _, fun q nq => ?_⟩
    have T2 := T1.new (o := .lst []) nq
    refine ⟨.list (rows.map .str), .list [], .lst (SqL.of (same_new nq _ _ hp)) (dp_strs rows), .lst (SqL.of upd_same) .nil, fine.shaped, rfl, _, rfl, ?_⟩
    have hp2 : (upd H1 q (.lst [])) p = some (.lst (rows.map V.str)) := same_new nq _ _ hp
    generalize upd H1 q (.lst []) = H2 at T2 hp2 ⊢
    dsimp only
    rw [eqv_nil]
    refine ite2 (fun h0 => ?_) (fun h0 => ?_)
    · refine ⟨_, rfl, G, tp, _, 3, rfl, T2, by omega, by decide, fun y H3 ty bt3 T3 => ⟨(by show 1 ≤ sizeLine; decide), fun t nt => ?_⟩⟩
      exact k t [y] _ upd_same (fun z hz => by rw [List.mem_singleton.mp hz]; exact ty.mono (by decide)) (by show 1 ≤ 400; decide) ((T3.new nt).mono (by omega))
    · have hpos : 0 < rows.length := by
        cases rows with
        | nil => exact absurd rfl h0
        | cons x y => exact Nat.succ_pos _
      refine ⟨_, rfl, _, rfl, p, _, rfl, .inl (SqL.of hp2), G, tp, _, _, rfl, T2, (by rw [List.length_map]; omega), (by rw [List.length_map]; omega), by omega, fun r1 H3 a1 b1 bt3 T3 => ?_⟩
      have hp3 := bt3 _ _ nep hp2
      obtain ⟨v, hv, hvm⟩ := atI_some (xs := rows.map V.str) a1 b1
      obtain ⟨row, hrow, rfl⟩ := List.mem_map.mp hvm
      have tr := hR row hrow
      refine ⟨_, rfl, _, rfl, p, _, _, _, rfl, rfl, SqL.of hp3, hv, _, rfl, G, tp, _, _, rfl, T3, by decide, by decide, by omega, fun r2 H4 a2 b2 bt4 T4 => ⟨_, _, rfl, ?_⟩⟩
      have hp4 := bt4 _ _ nep hp3
      have hrl := tr.len
      refine ⟨_, rfl, _, rfl, _, rfl, tr.size, _, _, rfl, rfl, G, tp, _, _, rfl, T4, by omega, by omega, by omega, fun r3 H5 a3 b3 bt5 T5 => ?_⟩
      have hp5 := bt5 _ _ nep hp4
      refine ⟨rfl, _, rfl, G, tp, _, _, rfl, T5, by decide, by decide, by omega, fun r4 H6 a4 b4 bt6 T6 => ?_⟩
      have hp6 := bt6 _ _ nep hp5
      obtain ⟨c, hc, hcm⟩ := atI_some (xs := SIG.cps.toList) a4 (by rw [Array.length_toList]; show r4 < (SIG.length : Int); rw [sig_len]; exact b4)
      have tc := sig_tx.at hc
      refine ⟨_, _, c, rfl, rfl, sig_tx.size, hc, _, _, rfl, ?_⟩
      refine ⟨_, rfl, _, _, rfl, rfl, _, rfl, ?_⟩
      dsimp only
      have tA := tr.cut none (some r3)
      have tB := tr.cut (some (r3 + 1)) none
      have tC := tr.cut (some r3) none
      refine ite2 (fun h1 => ?_) (fun h1 => ?_)
      · have h4 : r2 < 4 := of_decide_eq_true h1
        refine ⟨_, rfl, _, rfl, _, rfl, _, rfl, tr.size, _, rfl, _, _, rfl, rfl, tA.fit tc, _, rfl, _, rfl, _, _, rfl, rfl, _, rfl, _, rfl, tr.size, _, _, rfl, rfl, (tA.add tc).fit tB,
          _, rfl, _, rfl, _, rfl, _, rfl, tr.size, _, rfl, _, rfl, _, _, rfl, rfl, _, rfl, _, rfl, tr.size, _, _, rfl, rfl, tA.fit tB,
          _, rfl, _, rfl, _, rfl, _, rfl, tr.size, _, rfl, _, _, rfl, rfl, tA.fit tc, _, rfl, _, rfl, _, rfl, _, rfl, tr.size, _, _, rfl, rfl, (tA.add tc).fit tC, _, rfl, _, rfl, tr.size, (by show 4 ≤ sizeLine; decide), fun t nt => ?_⟩
        obtain ⟨w, hw, ow⟩ := four (a := V.str (cutS row none (some r3) ++ ⟨#[c]⟩ ++ cutS row (some (r3 + 1)) none)) (b := V.str (cutS row none (some r3) ++ cutS row (some (r3 + 1)) none)) (c := V.str (cutS row none (some r3) ++ ⟨#[c]⟩ ++ cutS row (some r3) none)) (d := V.str (revS row)) a2 h4
        obtain ⟨y, rfl, ty⟩ : ∃ y, w = .str y ∧ Tx 700 y := by
          rcases ow with rfl | rfl | rfl | rfl
          · exact ⟨_, rfl, ((tA.add tc).add tB).mono (by decide)⟩
          · exact ⟨_, rfl, (tA.add tB).mono (by decide)⟩
          · exact ⟨_, rfl, ((tA.add tc).add tC).mono (by decide)⟩
          · exact ⟨_, rfl, tr.rev.mono (by decide)⟩
        obtain ⟨j, rfl⟩ := Int.eq_ofNat_of_zero_le a1
        have hj : j < rows.length := by rw [List.length_map] at b1; omega
        refine ⟨_, rfl, t, _, _, _, rfl, rfl, SqL.of upd_same, hw, _, rfl, _, rfl, p, _, _, j, rfl, rfl, same_new nt _ _ hp6, ?_, ?_⟩
        · unfold ixN
          rw [if_pos (by omega), if_pos (by rw [List.length_map]; omega)] <;> rfl
        refine ⟨_, rfl, ?_⟩
        refine k p (rows.set j y) _ ?_ ?_ (by rw [List.length_set]; omega) (((T6.new nt).mut gp nep).mono (by omega))
        · rw [List.map_set]
          exact upd_same
        · intro z hz
          rcases List.mem_or_eq_of_mem_set hz with q | q
          · exact (hR z q).mono (by decide)
          · rw [q]
            exact ty
      · refine ⟨_, rfl, rfl, _, rfl, ?_⟩
        dsimp only
        obtain ⟨z1, e1, i1, l1⟩ := cutV_strs rows none (some r1)
        obtain ⟨z2, e2, i2, l2⟩ := cutV_strs rows (some (r1 + 1)) none
        obtain ⟨z3, e3, i3, l3⟩ := cutV_strs rows (some r1) (some (r1 + 2))
        obtain ⟨z4, e4, i4, l4⟩ := cutV_strs rows (some (r1 + 2)) none
        have t1 := mem_cut hR i1
        have t2 := mem_cut hR i2
        have t4 := mem_cut hR i4
        have t3 := mem_cut hR i3
        have l3' : z3.length ≤ 2 := by
          have : (z3.map V.str).length ≤ 2 := by
            rw [← e3]
            unfold cutV
            rw [List.length_take]
            obtain ⟨j, rfl⟩ := Int.eq_ofNat_of_zero_le a1
            have hx : HT.sIx (rows.map V.str).length (rows.map V.str).length (some ((j : Int) + 2)) = min (j + 2) (rows.map V.str).length := HT.sIx_nat _ _ (j + 2)
            have hy : HT.sIx (rows.map V.str).length 0 (some (j : Int)) = min j (rows.map V.str).length := HT.sIx_nat _ _ j
            show min (HT.sIx (rows.map V.str).length (rows.map V.str).length (some ((j : Int) + 2)) - HT.sIx (rows.map V.str).length 0 (some (j : Int))) _ ≤ 2
            rw [hx, hy]
            omega
          rwa [List.length_map] at this
        refine ite2 (fun h2 => ?_) (fun h2 => ?_)
        · refine ⟨_, rfl, _, rfl, _, rfl, p, _, rfl, SqL.of hp6, fun q1 m1 => ?_⟩
          rw [e1]
          have T7 := T6.new (o := .lst (z1.map V.str)) m1
          have hp7 := same_new (o := .lst (z1.map V.str)) m1 _ _ hp6
          have hq1 : (upd H6 q1 (.lst (z1.map V.str))) q1 = some (.lst (z1.map V.str)) := upd_same
          generalize upd H6 q1 (.lst (z1.map V.str)) = H7 at T7 hp7 hq1 ⊢
          refine ⟨_, rfl, _, rfl, _, _, rfl, rfl, _, rfl, p, _, rfl, SqL.of hp7, fun q2 m2 => ?_⟩
          rw [e2]
          refine ⟨q1, q2, _, _, rfl, rfl, same_new m2 _ _ hq1, upd_same, ?_, fun q3 m3 => ?_⟩
          · rw [List.length_map, List.length_map]
            exact size_of
          rw [← List.map_append]
          exact k q3 _ _ upd_same (app_tx t1 t2) (by rw [List.length_append]; omega) (((T7.new m2).new m3).mono (by omega))
        · refine ⟨_, rfl, rfl, _, rfl, ?_⟩
          dsimp only
          refine ite2 (fun h3 => ?_) (fun h3 => ?_)
          · refine ⟨_, rfl, _, rfl, _, rfl, p, _, rfl, SqL.of hp6, fun q1 m1 => ?_⟩
            rw [e1]
            have T7 := T6.new (o := .lst (z1.map V.str)) m1
            have hp7 := same_new (o := .lst (z1.map V.str)) m1 _ _ hp6
            have hq1 : (upd H6 q1 (.lst (z1.map V.str))) q1 = some (.lst (z1.map V.str)) := upd_same
            generalize upd H6 q1 (.lst (z1.map V.str)) = H7 at T7 hp7 hq1 ⊢
            refine ⟨⟨_, rfl⟩, _, rfl, _, rfl, _, rfl, _, rfl, _, _, rfl, rfl, _, rfl, p, _, rfl, SqL.of hp7, fun q2 m2 => ?_⟩
            rw [e3]
            have T8 := T7.new (o := .lst (z3.map V.str)) m2
            have hp8 := same_new (o := .lst (z3.map V.str)) m2 _ _ hp7
            have hq18 := same_new (o := .lst (z3.map V.str)) m2 _ _ hq1
            have hq2 : (upd H7 q2 (.lst (z3.map V.str))) q2 = some (.lst (z3.map V.str)) := upd_same
            generalize upd H7 q2 (.lst (z3.map V.str)) = H8 at T8 hp8 hq18 hq2 ⊢
            have tz3 : ∀ z ∈ z3, Tx 300 z := fun z q => hR z (i3 z q)
            refine ⟨_, q2, z3, rfl, rfl, .inl (SqL.of hq2), ?_, (by show 1 ≤ sizeLine; decide), fun q3 m3 => ?_⟩
            · have := lens_le tz3
              show _ + z3.length * 0 ≤ _
              omega
            have tj : Tx 700 (Txt.join (Str.ofString "") z3) := (Tx.join tz3).mono (by omega)
            generalize Txt.join (Str.ofString "") z3 = zj at tj ⊢
            have T9 := T8.new (o := .lst [V.str zj]) m3
            have hp9 := same_new (o := .lst [V.str zj]) m3 _ _ hp8
            refine ⟨q1, q3, _, _, rfl, rfl, same_new m3 _ _ hq18, upd_same, ?_, fun q4 m4 => ?_⟩
            · rw [List.length_map]
              exact size_of (by show z1.length + 1 ≤ _; omega)
            have e5 : z1.map V.str ++ [V.str zj] = (z1 ++ [zj]).map V.str := by rw [List.map_append] <;> rfl
            rw [e5]
            have T10 := T9.new (o := .lst ((z1 ++ [zj]).map V.str)) m4
            have hp10 := same_new (o := .lst ((z1 ++ [zj]).map V.str)) m4 _ _ hp9
            have hq4 : (upd (upd H8 q3 (.lst [V.str zj])) q4 (.lst ((z1 ++ [zj]).map V.str))) q4 = some (.lst ((z1 ++ [zj]).map V.str)) := upd_same
            generalize upd (upd H8 q3 (.lst [V.str zj])) q4 (.lst ((z1 ++ [zj]).map V.str)) = H9 at T10 hp10 hq4 ⊢
            refine ⟨_, rfl, _, rfl, _, _, rfl, rfl, _, rfl, p, _, rfl, SqL.of hp10, fun q5 m5 => ?_⟩
            rw [e4]
            refine ⟨q4, q5, _, _, rfl, rfl, same_new m5 _ _ hq4, upd_same, ?_, fun q6 m6 => ?_⟩
            · rw [List.length_map, List.length_map, List.length_append]
              exact size_of (by show z1.length + 1 + _ ≤ _; omega)
            rw [← List.map_append]
            exact k q6 _ _ upd_same (app_tx (app_tx t1 (fun y hy => by rw [List.mem_singleton.mp hy]; exact tj)) t4) (by rw [List.length_append, List.length_append]; show z1.length + 1 + _ ≤ _; omega) (((T10.new m5).new m6).mono (by omega))
          · refine ⟨_, rfl, _, rfl, _, rfl, p, _, rfl, SqL.of hp6, fun q1 m1 => ?_⟩
            rw [e1]
            have T7 := T6.new (o := .lst (z1.map V.str)) m1
            have hp7 := same_new (o := .lst (z1.map V.str)) m1 _ _ hp6
            have hq1 : (upd H6 q1 (.lst (z1.map V.str))) q1 = some (.lst (z1.map V.str)) := upd_same
            generalize upd H6 q1 (.lst (z1.map V.str)) = H7 at T7 hp7 hq1 ⊢
            refine ⟨_, rfl, _, rfl, _, rfl, _, rfl, _, _, rfl, rfl, _, rfl, p, _, rfl, SqL.of hp7, fun q2 m2 => ?_⟩
            rw [e3]
            have T8 := T7.new (o := .lst (z3.map V.str)) m2
            have hp8 := same_new (o := .lst (z3.map V.str)) m2 _ _ hp7
            have hq18 := same_new (o := .lst (z3.map V.str)) m2 _ _ hq1
            have hq2 : (upd H7 q2 (.lst (z3.map V.str))) q2 = some (.lst (z3.map V.str)) := upd_same
            generalize upd H7 q2 (.lst (z3.map V.str)) = H8 at T8 hp8 hq18 hq2 ⊢
            refine ⟨q2, _, rfl, SqL.of hq2, fun q3 m3 => ?_⟩
            rw [← List.map_reverse]
            have T9 := T8.new (o := .lst (z3.reverse.map V.str)) m3
            have hp9 := same_new (o := .lst (z3.reverse.map V.str)) m3 _ _ hp8
            refine ⟨q1, q3, _, _, rfl, rfl, same_new m3 _ _ hq18, upd_same, ?_, fun q4 m4 => ?_⟩
            · rw [List.length_map, List.length_map, List.length_reverse]
              exact size_of
            rw [← List.map_append]
            have T10 := T9.new (o := .lst ((z1 ++ z3.reverse).map V.str)) m4
            have hp10 := same_new (o := .lst ((z1 ++ z3.reverse).map V.str)) m4 _ _ hp9
            have hq4 : (upd (upd H8 q3 (.lst (z3.reverse.map V.str))) q4 (.lst ((z1 ++ z3.reverse).map V.str))) q4 = some (.lst ((z1 ++ z3.reverse).map V.str)) := upd_same
            generalize upd (upd H8 q3 (.lst (z3.reverse.map V.str))) q4 (.lst ((z1 ++ z3.reverse).map V.str)) = H9 at T10 hp10 hq4 ⊢
            refine ⟨_, rfl, _, rfl, _, _, rfl, rfl, _, rfl, p, _, rfl, SqL.of hp10, fun q5 m5 => ?_⟩
            rw [e4]
            refine ⟨q4, q5, _, _, rfl, rfl, same_new m5 _ _ hq4, upd_same, ?_, fun q6 m6 => ?_⟩
            · rw [List.length_map, List.length_map, List.length_append, List.length_reverse]
              exact size_of
            rw [← List.map_append]
            exact k q6 _ _ upd_same (app_tx (app_tx t1 (fun y hy => t3 y (List.mem_reverse.mp hy))) t4) (by rw [List.length_append, List.length_append, List.length_reverse]; omega) (((T10.new m5).new m6).mono (by omega))

def sp_law (K : PySem.W.Frag) : Sp := fun vs H Q _ => ∃ (a : Addr) (ns : List Int), vs = [.ref a] ∧ SqL K H a (ns.map V.int) ∧ ns.length ≤ 63 ∧ ∀ H', Q (.bl true) H'
/-- the texts made so far by a comprehension -/
def Made (K : PySem.W.Frag) (G : Hp) (tp D : Addr) (n m j : Nat) (H' : Hp) : Prop := ∃ ys : List Str, ys.length = j ∧ (∀ y ∈ ys, Tx m y) ∧ Tape K G H' tp (n + 1000 * j) ∧ H' D = some (.lst (ys.map V.str))
theorem Made.next {K : PySem.W.Frag} {G H3 H4 : Hp} {tp D : Addr} {n m j : Nat} {ys : List Str} {y : Str} (neD : D ≠ tp) (gD : G D = none) (hj : j < 100) (hl : ys.length = j) (hy : ∀ y ∈ ys, Tx m y) (ty : Tx m y) (e3 : H3 D = some (.lst (ys.map V.str))) (bt4 : But tp H3 H4) (T4 : Tape K G H4 tp (n + 1000 * j + 1000)) :
    ∃ acc, H4 D = some (.lst acc) ∧ acc.length < sizeLine ∧ Made K G tp D n m (j + 1) (upd H4 D (.lst (acc ++ [V.str y]))) := by
  refine ⟨_, bt4 _ _ neD e3, ?_, ys ++ [y], ?_, ?_, (T4.mut gD neD).mono (by omega), ?_⟩
  · rw [List.length_map, hl]
    exact size_lt
  · rw [List.length_append, hl] <;> rfl
  · intro z hz
    rcases List.mem_append.mp hz with q | q
    · exact hy z q
    · rw [List.mem_singleton.mp q]
      exact ty
  · rw [List.map_append]
    exact upd_same

theorem ok_law {P : Program} {w : World} {K : PySem.W.Frag} {mg : Str → Option Value} {base : Heap} {f : Addr} {fd : FuncData} (T : Txt K mg) (F : Fun K "law" "law" s_law f fd)
    {f__law_tape : Addr} {fd__law_tape : FuncData} (O__law_tape : OkF P w K mg base CX0 1 "_law_tape" ps__law_tape (sp__law_tape K) f__law_tape fd__law_tape)
    (B__law_tape : Binds K fd__law_tape ps__law_tape [])
    {f__law_right : Addr} {fd__law_right : FuncData} (O__law_right : OkF P w K mg base CX0 3 "_law_right" ps__law_right (sp__law_right K) f__law_right fd__law_right)
    (B__law_right : Binds K fd__law_right ps__law_right [])
    {f__law_text : Addr} {fd__law_text : FuncData} (O__law_text : OkF P w K mg base CX0 2 "_law_text" ps__law_text (sp__law_text K) f__law_text fd__law_text)
    (B__law_text : Binds K fd__law_text ps__law_text [])
    {f__law_draw : Addr} {fd__law_draw : FuncData} (O__law_draw : OkF P w K mg base CX0 1 "_law_draw" ps__law_draw (sp__law_draw K) f__law_draw fd__law_draw)
    (B__law_draw : Binds K fd__law_draw ps__law_draw [])
    {f__law_near : Addr} {fd__law_near : FuncData} (O__law_near : OkF P w K mg base CX0 3 "_law_near" ps__law_near (sp__law_near K) f__law_near fd__law_near)
    (B__law_near : Binds K fd__law_near ps__law_near []) : FnOk P w K mg base CX0 4 f fd ps_law (sp_law K) := by
  refine F.ok sc_law (fun vs H Q E h => ?_) (fun cdv A outer s H vs Q E hr h => ?_)
  · obtain ⟨a, ns, rfl, hS, hlen, k⟩ := h
    rfl
  · obtain ⟨a, ns, rfl, hS, hlen, k⟩ := h
    refine ⟨_, (pss_cons (ps_set (i := 1) sc_law.nd rfl (Or.inr rfl) (pe_f O__law_tape B__law_tape (hr.mono (by decide)) pass0 (pa_cons (pv 0) pa_nil)))
      (pss_cons (ps_for PassesOwn.never rfl (pi_range1 (by rfl) T.b_range (pa_cons pe_int pa_nil)) (pg_name (i := 2) sc_law.nd rfl (Or.inl rfl))
      (pss_cons (ps_setLc (i := 3) (own := [("_law_k", 4)]) (g := gName 4) (tt := tYes) (by rfl) sc_law.nd rfl rfl (sw_true rfl rfl rfl (by decide +kernel)) (pi_range1 (by rfl) T.b_range (pa_cons (pe_f O__law_draw B__law_draw (hr.mono (by decide)) pass0 (pa_cons (pv 1) (pa_cons pe_int pa_nil))) pa_nil)) (blkOk_by (own := [("_law_k", 4)]) (N := nm_law) (sc := defScope s_law) (by decide +kernel)) (fun _ _ _ _ _ => (pg_name (i := 4) sc_law.nd rfl (Or.inl rfl))) (fun _ _ _ _ _ => pts_nil) (fun _ _ _ _ _ => (pe_f O__law_text B__law_text (hr.mono (by decide)) pass0 (pa_cons (pv 1) (pa_cons pe_int pa_nil)))))
      (pss_cons (ps_if (PW.pt (pw_and (pt_cmpR op_eq (pv 2) pe_int (nomark _)) (pw_and1 (pt_cmpR op_eq (pe_f O__law_draw B__law_draw (hr.mono (by decide)) pass0 (pa_cons (pv 1) (pa_cons pe_int pa_nil))) pe_int (nomark _)))))
      (pss_cons (ps_setLc (i := 3) (own := [("_law_k", 4)]) (g := gName 4) (tt := tYes) (by rfl) sc_law.nd rfl rfl (sw_true rfl rfl rfl (by decide +kernel)) (pi_range1 (by rfl) T.b_range (pa_cons pe_int pa_nil)) (blkOk_by (own := [("_law_k", 4)]) (N := nm_law) (sc := defScope s_law) (by decide +kernel)) (fun _ _ _ _ _ => (pg_name (i := 4) sc_law.nd rfl (Or.inl rfl))) (fun _ _ _ _ _ => pts_nil) (fun _ _ _ _ _ => (pe_f O__law_text B__law_text (hr.mono (by decide)) pass0 (pa_cons (pv 1) (pa_cons pe_int pa_nil)))))
      (pss_one (ps_asg (pe_f O__law_text B__law_text (hr.mono (by decide)) pass0 (pa_cons (pv 1) (pa_cons pe_int pa_nil))) (pg_sub (pv 3) (pe_f O__law_draw B__law_draw (hr.mono (by decide)) pass0 (pa_cons (pv 1) (pa_cons pe_int pa_nil))) set_list))))
      pss_nil)
      (pss_one (ps_if (PW.pt (pw_or (pt_not (pt_val (pe_f O__law_right B__law_right (hr.mono (by decide)) pass0 (pa_cons (pv 3) pa_nil)))) (pw_or1 (pt_not (pt_val (pe_f O__law_right B__law_right (hr.mono (by decide)) pass0 (pa_cons (pe_f O__law_near B__law_near (hr.mono (by decide)) pass0 (pa_cons (pv 1) (pa_cons (pv 3) pa_nil))) pa_nil)))))))
      (pss_one (ps_ret pe_bl))
      pss_nil)))))
      (pss_one (ps_ret (pe_and (pe_f O__law_right B__law_right (hr.mono (by decide)) pass0 (pa_cons (pe_lst pa_nil) pa_nil)) (pe_one (pe_f O__law_right B__law_right (hr.mono (by decide)) pass0 (pa_cons (pe_lst (pa_cons pe_str pa_nil)) pa_nil)))))))), ?_⟩
    refine ⟨_, rfl, a, ns, rfl, hS, fun tp G0 H0 sG T0 => ?_⟩
    refine ⟨_, rfl, (by decide), (by decide), for_it (walk_range (lo := 0) (n := 6)) (fun i σ H' => ∃ (G : Hp) (n : Nat) (t2 t3 : Option V), σ = [some (.ref a), some (.ref tp), t2, t3, none] ∧ Tape K G H' tp n ∧ n ≤ 200000 * i) ⟨G0, 0, none, none, rfl, T0, Nat.le_refl _⟩ (fun _ _ _ _ _ => trivial) ?_ ?_⟩
    · rintro i x σ H1 H1' hi ⟨G, n, t2, t3, rfl, T1, hn⟩ ⟨rfl, rfl⟩
      have hi6 : i < 6 := hi
      refine ⟨_, rfl, G, tp, n, _, rfl, T1, by decide, by decide, by omega, fun r1 H2 a1 b1 bt1 T2 => ?_⟩
      refine ⟨_, rfl, by omega, by omega, fun D nD => ?_⟩
      have neD : D ≠ tp := T2.ne nD
      have gD : G D = none := T2.free nD
      refine lc_it (walk_range (lo := 0)) (Made K G tp D (n + 1) 40) ⟨[], rfl, (fun y hy => by cases hy), T2.new nD, upd_same⟩ (fun _ _ _ _ => trivial) ?_ ?_
      · rintro j x H3 H3' hj ⟨ys, hl, hy, T3, e3⟩ ⟨rfl, rfl⟩
        refine ⟨rfl, ?_⟩
        refine ⟨_, rfl, G, tp, _, 40, rfl, T3, by omega, by decide, fun y H4 ty bt4 T4 => ?_⟩
        exact Made.next neD gD (by omega) hl hy ty e3 bt4 T4
      rintro H5 ⟨ys, hl, hy, T5, e5⟩
      dsimp only [gName]
      refine seq_have (fun σ H' => ∃ (D : Addr) (ys : List Str) (n' : Nat), σ = [some (.ref a), some (.ref tp), some (.int (0 + (i : Int))), some (.ref D), none] ∧ Tape K G H' tp n' ∧ n' ≤ n + 100000 ∧ H' D = some (.lst (ys.map V.str)) ∧ D ≠ tp ∧ G D = none ∧ (∀ y ∈ ys, Tx 300 y) ∧ ys.length ≤ 62) ?_ ?_
      · rintro σ H6 ⟨D, ys, n6, rfl, T6, hn6, e6, ne6, g6, ty6, l6⟩
        refine ⟨_, rfl, D, ys, rfl, SqL.of e6, fun r hr => (ty6 r hr).mono (by decide), by omega, fun H7 s7 => ⟨_, rfl, ?_⟩⟩
        refine iteF ?_
        have T7 := (T6.same s7).keep (s7 _ _ e6) ne6 g6
        refine ⟨_, rfl, _, rfl, _, tp, D, _, ys, rfl, T7, by omega, SqL.of upd_same, ty6, by omega, fun p zs H8 hp tz lz T8 => ?_⟩
        refine ⟨p, zs, rfl, SqL.of hp, fun r hr => (tz r hr).mono (by decide), by omega, fun H9 s9 => ⟨_, rfl, ?_⟩⟩
        exact iteF ⟨_, _, _, _, rfl, T8.same s9, by omega⟩
      · intro rest
        refine ⟨_, rfl, rfl, _, rfl, ?_⟩
        have fine0 : ∃ (D' : Addr) (ys' : List Str) (n' : Nat), [some (V.ref a), some (V.ref tp), some (V.int (0 + (i : Int))), some (V.ref D), none] = [some (V.ref a), some (V.ref tp), some (V.int (0 + (i : Int))), some (V.ref D'), none] ∧ Tape K G H5 tp n' ∧ n' ≤ n + 100000 ∧ H5 D' = some (.lst (ys'.map V.str)) ∧ D' ≠ tp ∧ G D' = none ∧ (∀ y ∈ ys', Tx 300 y) ∧ ys'.length ≤ 62 :=
          ⟨D, ys, _, rfl, T5, by omega, e5, neD, gD, fun y q => (hy y q).mono (by decide), by omega⟩
        refine ite2 (fun h0 => ?_) (fun h0 => iteF (rest _ _ fine0))
        refine ⟨_, rfl, G, tp, _, _, rfl, T5, by decide, by decide, by omega, fun r6 H6 a6 b6 bt6 T6 => ⟨rfl, _, rfl, ?_⟩⟩
        dsimp only
        refine ite2 (fun h1 => ?_) (fun h1 => rest _ _ ⟨D, ys, _, rfl, T6, by omega, bt6 _ _ neD e5, neD, gD, fun y q => (hy y q).mono (by decide), by omega⟩)
        refine ⟨_, rfl, (by decide), (by decide), fun D2 nD2 => ?_⟩
        have neD2 : D2 ≠ tp := T6.ne nD2
        have gD2 : G D2 = none := T6.free nD2
        refine lc_it (walk_range (lo := 0)) (Made K G tp D2 (n + 1 + 1000 * (0 + r1).toNat + 1) 12) ?_ (fun _ _ _ _ => trivial) ?_ ?_
        · exact ⟨[], rfl, (fun y hy => by cases hy), (T6.new nD2).mono (by omega), upd_same⟩
        · rintro j x H7 H7' hj ⟨zs, hl7, hy7, T7, e7⟩ ⟨rfl, rfl⟩
          have hj62 : j < 62 := hj
          refine ⟨rfl, ?_⟩
          refine ⟨_, rfl, G, tp, _, 12, rfl, T7, by omega, by decide, fun y H8 ty bt8 T8 => ?_⟩
          exact Made.next neD2 gD2 (by omega) hl7 hy7 ty e7 bt8 T8
        rintro H8 ⟨zs, hl8, hy8, T8, e8⟩
        have l62 : zs.length = 62 := hl8
        rw [show ((62 : Int)).toNat = 62 from rfl] at T8
        refine ⟨_, rfl, G, tp, _, 255, rfl, T8, by omega, by decide, fun y H9 ty bt9 T9 => ?_⟩
        refine ⟨_, rfl, _, rfl, G, tp, _, _, rfl, T9, by decide, by decide, by omega, fun r10 H10 a10 b10 bt10 T10 => ?_⟩
        obtain ⟨j, rfl⟩ := Int.eq_ofNat_of_zero_le a10
        refine ⟨D2, _, _, j, rfl, rfl, bt10 _ _ neD2 (bt9 _ _ neD2 e8), ?_, ?_⟩
        · unfold ixN
          rw [if_pos (by omega), if_pos (by rw [List.length_map]; omega)] <;> rfl
        refine rest _ _ ⟨D2, zs.set j y, _, rfl, T10.mut gD2 neD2, by omega, ?_, neD2, gD2, ?_, by rw [List.length_set]; omega⟩
        · rw [List.map_set]
          exact upd_same
        · intro z hz
          rcases List.mem_or_eq_of_mem_set hz with q | q
          · exact (hy8 z q).mono (by decide)
          · rw [q]
            exact ty.mono (by decide)
    · rintro σ H1 ⟨G, n, t2, t3, rfl, T1, hn⟩
      refine ⟨Nat.zero_le _, fun q nq => ⟨q, [], rfl, SqL.of upd_same, (fun r hr => by cases hr), by decide, fun H2 s2 => ⟨_, rfl, iteT ?_⟩⟩⟩
      refine ⟨(by show 1 ≤ sizeLine; decide), fun q2 nq2 => ⟨q2, [Str.ofString ""], rfl, SqL.of upd_same, (fun r hr => by rw [List.mem_singleton.mp hr]; exact Tx.lit _ (by decide)), by decide, fun H3 s3 => ?_⟩⟩
      exact k _
theorem all_mk {l : PySem.W.OpenLaw} {w : World} {K : PySem.W.Frag} {h : Heap} {mg : Str → Option Value} {fa : Addr} {f_mark_of f__law_tape f__law_draw f__law_signs f__law_joined f__law_mark f__law_text f__law_near f__law_right f_law : Addr} (X : K.In h) (G : h.Ns mainGlobals mg) (hfa : mg "law" = some (.ref fa))
    {od_mark_of an_mark_of od__law_tape an__law_tape od__law_draw an__law_draw od__law_signs an__law_signs od__law_joined an__law_joined od__law_mark an__law_mark od__law_text an__law_text od__law_near an__law_near od__law_right an__law_right od_law an_law : Option Addr} {sl_mark_of sl__law_tape sl__law_draw sl__law_signs sl__law_joined sl__law_mark sl__law_text sl__law_near sl__law_right sl_law : Array (Option Value)}
    {oc_mark_of kV_mark_of dc_mark_of pm_mark_of cd_mark_of ct_mark_of oc__law_tape kV__law_tape dc__law_tape pm__law_tape cd__law_tape ct__law_tape oc__law_draw kV__law_draw dc__law_draw pm__law_draw cd__law_draw ct__law_draw oc__law_signs kV__law_signs dc__law_signs pm__law_signs cd__law_signs ct__law_signs oc__law_joined kV__law_joined dc__law_joined pm__law_joined cd__law_joined ct__law_joined oc__law_mark kV__law_mark dc__law_mark pm__law_mark cd__law_mark ct__law_mark oc__law_text kV__law_text dc__law_text pm__law_text cd__law_text ct__law_text oc__law_near kV__law_near dc__law_near pm__law_near cd__law_near ct__law_near oc__law_right kV__law_right dc__law_right pm__law_right cd__law_right ct__law_right oc_law kV_law dc_law pm_law cd_law ct_law : Value}
    {tk_FIRST : Tok}
    (a_mark_of : PySem.W.nsIn K mainGlobals "mark_of" = some (some (.ref f_mark_of)))
    (l_mark_of : K.lookup f_mark_of = some ⟨oc_mark_of, od_mark_of, .func (PySem.W.fnOf "mark_of" "mark_of" (defArgs s_mark_of) (defBody s_mark_of) (defScope s_mark_of) .none kV_mark_of dc_mark_of pm_mark_of an_mark_of cd_mark_of ct_mark_of), sl_mark_of⟩)
    (c_mark_of : PySem.W.codeIn K cd_mark_of "mark_of" = true) (k_mark_of : PySem.W.keepIn K (.ref f_mark_of) = true)
    (a__law_tape : PySem.W.nsIn K mainGlobals "_law_tape" = some (some (.ref f__law_tape)))
    (l__law_tape : K.lookup f__law_tape = some ⟨oc__law_tape, od__law_tape, .func (PySem.W.fnOf "_law_tape" "_law_tape" (defArgs s__law_tape) (defBody s__law_tape) (defScope s__law_tape) .none kV__law_tape dc__law_tape pm__law_tape an__law_tape cd__law_tape ct__law_tape), sl__law_tape⟩)
    (c__law_tape : PySem.W.codeIn K cd__law_tape "_law_tape" = true) (k__law_tape : PySem.W.keepIn K (.ref f__law_tape) = true)
    (a__law_draw : PySem.W.nsIn K mainGlobals "_law_draw" = some (some (.ref f__law_draw)))
    (l__law_draw : K.lookup f__law_draw = some ⟨oc__law_draw, od__law_draw, .func (PySem.W.fnOf "_law_draw" "_law_draw" (defArgs s__law_draw) (defBody s__law_draw) (defScope s__law_draw) .none kV__law_draw dc__law_draw pm__law_draw an__law_draw cd__law_draw ct__law_draw), sl__law_draw⟩)
    (c__law_draw : PySem.W.codeIn K cd__law_draw "_law_draw" = true) (k__law_draw : PySem.W.keepIn K (.ref f__law_draw) = true)
    (a__law_signs : PySem.W.nsIn K mainGlobals "_law_signs" = some (some (.ref f__law_signs)))
    (l__law_signs : K.lookup f__law_signs = some ⟨oc__law_signs, od__law_signs, .func (PySem.W.fnOf "_law_signs" "_law_signs" (defArgs s__law_signs) (defBody s__law_signs) (defScope s__law_signs) .none kV__law_signs dc__law_signs pm__law_signs an__law_signs cd__law_signs ct__law_signs), sl__law_signs⟩)
    (c__law_signs : PySem.W.codeIn K cd__law_signs "_law_signs" = true) (k__law_signs : PySem.W.keepIn K (.ref f__law_signs) = true)
    (a__law_joined : PySem.W.nsIn K mainGlobals "_law_joined" = some (some (.ref f__law_joined)))
    (l__law_joined : K.lookup f__law_joined = some ⟨oc__law_joined, od__law_joined, .func (PySem.W.fnOf "_law_joined" "_law_joined" (defArgs s__law_joined) (defBody s__law_joined) (defScope s__law_joined) .none kV__law_joined dc__law_joined pm__law_joined an__law_joined cd__law_joined ct__law_joined), sl__law_joined⟩)
    (c__law_joined : PySem.W.codeIn K cd__law_joined "_law_joined" = true) (k__law_joined : PySem.W.keepIn K (.ref f__law_joined) = true)
    (a__law_mark : PySem.W.nsIn K mainGlobals "_law_mark" = some (some (.ref f__law_mark)))
    (l__law_mark : K.lookup f__law_mark = some ⟨oc__law_mark, od__law_mark, .func (PySem.W.fnOf "_law_mark" "_law_mark" (defArgs s__law_mark) (defBody s__law_mark) (defScope s__law_mark) .none kV__law_mark dc__law_mark pm__law_mark an__law_mark cd__law_mark ct__law_mark), sl__law_mark⟩)
    (c__law_mark : PySem.W.codeIn K cd__law_mark "_law_mark" = true) (k__law_mark : PySem.W.keepIn K (.ref f__law_mark) = true)
    (a__law_text : PySem.W.nsIn K mainGlobals "_law_text" = some (some (.ref f__law_text)))
    (l__law_text : K.lookup f__law_text = some ⟨oc__law_text, od__law_text, .func (PySem.W.fnOf "_law_text" "_law_text" (defArgs s__law_text) (defBody s__law_text) (defScope s__law_text) .none kV__law_text dc__law_text pm__law_text an__law_text cd__law_text ct__law_text), sl__law_text⟩)
    (c__law_text : PySem.W.codeIn K cd__law_text "_law_text" = true) (k__law_text : PySem.W.keepIn K (.ref f__law_text) = true)
    (a__law_near : PySem.W.nsIn K mainGlobals "_law_near" = some (some (.ref f__law_near)))
    (l__law_near : K.lookup f__law_near = some ⟨oc__law_near, od__law_near, .func (PySem.W.fnOf "_law_near" "_law_near" (defArgs s__law_near) (defBody s__law_near) (defScope s__law_near) .none kV__law_near dc__law_near pm__law_near an__law_near cd__law_near ct__law_near), sl__law_near⟩)
    (c__law_near : PySem.W.codeIn K cd__law_near "_law_near" = true) (k__law_near : PySem.W.keepIn K (.ref f__law_near) = true)
    (a__law_right : PySem.W.nsIn K mainGlobals "_law_right" = some (some (.ref f__law_right)))
    (l__law_right : K.lookup f__law_right = some ⟨oc__law_right, od__law_right, .func (PySem.W.fnOf "_law_right" "_law_right" (defArgs s__law_right) (defBody s__law_right) (defScope s__law_right) .none kV__law_right dc__law_right pm__law_right an__law_right cd__law_right ct__law_right), sl__law_right⟩)
    (c__law_right : PySem.W.codeIn K cd__law_right "_law_right" = true) (k__law_right : PySem.W.keepIn K (.ref f__law_right) = true)
    (a_law : PySem.W.nsIn K mainGlobals "law" = some (some (.ref f_law)))
    (l_law : K.lookup f_law = some ⟨oc_law, od_law, .func (PySem.W.fnOf "law" "law" (defArgs s_law) (defBody s_law) (defScope s_law) .none kV_law dc_law pm_law an_law cd_law ct_law), sl_law⟩)
    (c_law : PySem.W.codeIn K cd_law "law" = true) (k_law : PySem.W.keepIn K (.ref f_law) = true)
    (z_abs : PySem.W.nsIn K mainGlobals "abs" = some none)
    (z_bool : PySem.W.nsIn K mainGlobals "bool" = some none)
    (z_int : PySem.W.nsIn K mainGlobals "int" = some none)
    (z_isinstance : PySem.W.nsIn K mainGlobals "isinstance" = some none)
    (z_len : PySem.W.nsIn K mainGlobals "len" = some none)
    (z_list : PySem.W.nsIn K mainGlobals "list" = some none)
    (z_ord : PySem.W.nsIn K mainGlobals "ord" = some none)
    (z_range : PySem.W.nsIn K mainGlobals "range" = some none)
    (g_FIRST : PySem.W.nsIn K mainGlobals "FIRST" = some (some (.int 40503 tk_FIRST)))
    : ∃ fd : FuncData, (∀ (s : Shared) (v : Value), BindsTo s fd ⟨[v], []⟩ [("_law_script", v)]) ∧ ∀ base : Heap, K.In base → base.Ns mainGlobals mg → FnOk l.prog w K mg base CX0 4 fa fd ["_law_script"] (sp_law K) := by
  have e := hfa.symm.trans (PySem.W.mg_of X G a_law)
  cases e
  have T : Txt K mg := ⟨PySem.W.mg_none_of X G z_abs, PySem.W.mg_none_of X G z_bool, PySem.W.mg_none_of X G z_int, PySem.W.mg_none_of X G z_isinstance, PySem.W.mg_none_of X G z_len, PySem.W.mg_none_of X G z_list, PySem.W.mg_none_of X G z_ord, PySem.W.mg_none_of X G z_range, ⟨_, PySem.W.mg_of X G g_FIRST, ⟨_, rfl⟩⟩⟩
  have F_mark_of := fun_mk (st := s_mark_of) l_mark_of c_mark_of k_mark_of
  have F__law_tape := fun_mk (st := s__law_tape) l__law_tape c__law_tape k__law_tape
  have F__law_draw := fun_mk (st := s__law_draw) l__law_draw c__law_draw k__law_draw
  have F__law_signs := fun_mk (st := s__law_signs) l__law_signs c__law_signs k__law_signs
  have F__law_joined := fun_mk (st := s__law_joined) l__law_joined c__law_joined k__law_joined
  have F__law_mark := fun_mk (st := s__law_mark) l__law_mark c__law_mark k__law_mark
  have F__law_text := fun_mk (st := s__law_text) l__law_text c__law_text k__law_text
  have F__law_near := fun_mk (st := s__law_near) l__law_near c__law_near k__law_near
  have F__law_right := fun_mk (st := s__law_right) l__law_right c__law_right k__law_right
  have F_law := fun_mk (st := s_law) l_law c_law k_law
  have KB_mark_of_0_rows : KB K _ ps_mark_of 0 ["rows"] (fun _ zs => zs) := Fun.kb F_mark_of 0 _ (fun {_} => (fun _ zs => zs)) (fun _ r => r) fun _ _ _ _ _ _ us ws h1 h2 => match us, ws, h1, h2 with | [], [_], _, _ => rfl
  have B__law_tape := F__law_tape.binds (ps := ps__law_tape) fun _ _ _ _ _ _ us hl => match us, hl with | [_], _ => rfl
  have B__law_draw := F__law_draw.binds (ps := ps__law_draw) fun _ _ _ _ _ _ us hl => match us, hl with | [_, _], _ => rfl
  have B__law_signs := F__law_signs.binds (ps := ps__law_signs) fun _ _ _ _ _ _ us hl => match us, hl with | [], _ => rfl
  have B__law_joined := F__law_joined.binds (ps := ps__law_joined) fun _ _ _ _ _ _ us hl => match us, hl with | [_, _], _ => rfl
  have B__law_mark := F__law_mark.binds (ps := ps__law_mark) fun _ _ _ _ _ _ us hl => match us, hl with | [_], _ => rfl
  have B__law_text := F__law_text.binds (ps := ps__law_text) fun _ _ _ _ _ _ us hl => match us, hl with | [_, _], _ => rfl
  have B__law_near := F__law_near.binds (ps := ps__law_near) fun _ _ _ _ _ _ us hl => match us, hl with | [_, _], _ => rfl
  have B__law_right := F__law_right.binds (ps := ps__law_right) fun _ _ _ _ _ _ us hl => match us, hl with | [_], _ => rfl
  refine ⟨PySem.W.fnOf "law" "law" (defArgs s_law) (defBody s_law) (defScope s_law) .none kV_law dc_law pm_law an_law cd_law ct_law, fun s v => .of_eq rfl, fun base _ _ => ?_⟩
  have O__law_draw : OkF l.prog w K mg base CX0 1 "_law_draw" ps__law_draw (sp__law_draw K) f__law_draw _ := ⟨ok__law_draw T F__law_draw , PySem.W.mg_of X G a__law_draw, k__law_draw⟩
  have O__law_tape : OkF l.prog w K mg base CX0 1 "_law_tape" ps__law_tape (sp__law_tape K) f__law_tape _ := ⟨ok__law_tape T F__law_tape , PySem.W.mg_of X G a__law_tape, k__law_tape⟩
  have O__law_signs : OkF l.prog w K mg base CX0 1 "_law_signs" ps__law_signs (sp__law_signs) f__law_signs _ := ⟨ok__law_signs T F__law_signs , PySem.W.mg_of X G a__law_signs, k__law_signs⟩
  have O_mark_of : OkF l.prog w K mg base CX0 1 "mark_of" ps_mark_of (sp_mark_of K) f_mark_of _ := ⟨ok_mark_of T F_mark_of , PySem.W.mg_of X G a_mark_of, k_mark_of⟩
  have O__law_joined : OkF l.prog w K mg base CX0 1 "_law_joined" ps__law_joined (sp__law_joined) f__law_joined _ := ⟨ok__law_joined T F__law_joined , PySem.W.mg_of X G a__law_joined, k__law_joined⟩
  have O__law_mark : OkF l.prog w K mg base CX0 2 "_law_mark" ps__law_mark (sp__law_mark K) f__law_mark _ := ⟨ok__law_mark T F__law_mark O__law_joined B__law_joined, PySem.W.mg_of X G a__law_mark, k__law_mark⟩
  have O__law_text : OkF l.prog w K mg base CX0 2 "_law_text" ps__law_text (sp__law_text K) f__law_text _ := ⟨ok__law_text T F__law_text O__law_signs B__law_signs O__law_draw B__law_draw, PySem.W.mg_of X G a__law_text, k__law_text⟩
  have O__law_right : OkF l.prog w K mg base CX0 3 "_law_right" ps__law_right (sp__law_right K) f__law_right _ := ⟨ok__law_right T F__law_right O__law_mark B__law_mark O_mark_of KB_mark_of_0_rows, PySem.W.mg_of X G a__law_right, k__law_right⟩
  have O__law_near : OkF l.prog w K mg base CX0 3 "_law_near" ps__law_near (sp__law_near K) f__law_near _ := ⟨ok__law_near T F__law_near O__law_draw B__law_draw O__law_text B__law_text O__law_signs B__law_signs, PySem.W.mg_of X G a__law_near, k__law_near⟩
  exact ok_law T F_law O__law_tape B__law_tape O__law_right B__law_right O__law_text B__law_text O__law_draw B__law_draw O__law_near B__law_near
theorem walk {l : PySem.W.OpenLaw} {q : Program} {loose : List Str} {XP : (Str → Option Value) → Heap → Prop} {YP : World → Heap → Prop} {d : DefRec} {K : Params → PySem.W.Frag} (hn : l.most = some 63) (hdf : d.params.defaults = [])
    (hY : ∀ (w : World) (h : Heap), YP w h → (K w.params).In h)
    (F : ∀ (w : World) (mg : Str → Option Value) (fa : Addr) (h : Heap), (K w.params).In h → h.Ns mainGlobals mg → mg d.name = some (.ref fa) →
      ∃ fd : FuncData, (∀ (s : Shared) (u : Value), BindsTo s fd ⟨[u], []⟩ [("_law_script", u)]) ∧ ∀ base : Heap, (K w.params).In base → base.Ns mainGlobals mg → FnOk l.prog w (K w.params) mg base CX0 4 fa fd ["_law_script"] (sp_law (K w.params))) :
    PySem.W.WalkO q loose XP YP l.row.toRowW d [] (fun f vs => PySem.call f vs) :=
  L2.walk_of (n := 63) (k := 4) (x := "_law_script") (CX := fun _ => CX0) (sp := fun w => sp_law (K w.params)) hn (by decide) hdf ⟨rfl, by decide, by decide⟩ hY F (fun _ _ a ns hl _ hS => ⟨a, ns, rfl, hS, hl, fun _ => rfl⟩) fun _ _ _ _ _ z => z
end Nk04

open PySem PySem.W PyProof.Rows in
set_option maxRecDepth 100000 in
set_option maxHeartbeats 0 in
theorem PySem.Challenge.cw_nightpaper_k04_marks_of_rows_holds : PySem.Challenge.rw_nightpaper_k04_marks_of_rows.Holds := by
  w_on; o_law; k_head; (case hw => w_witness2)
  k_fill
  refine Nk04.walk (l := PySem.Challenge.rw_nightpaper_k04_marks_of_rows) rfl rfl (fun w h Y => PySem.W.kIn_of Y) ?F
  case F =>
    intro w mg fa h KX G hmg
    refine' Nk04.all_mk KX G hmg ?a_mark_of ?l_mark_of ?c_mark_of ?k_mark_of ?a__law_tape ?l__law_tape ?c__law_tape ?k__law_tape ?a__law_draw ?l__law_draw ?c__law_draw ?k__law_draw ?a__law_signs ?l__law_signs ?c__law_signs ?k__law_signs ?a__law_joined ?l__law_joined ?c__law_joined ?k__law_joined ?a__law_mark ?l__law_mark ?c__law_mark ?k__law_mark ?a__law_text ?l__law_text ?c__law_text ?k__law_text ?a__law_near ?l__law_near ?c__law_near ?k__law_near ?a__law_right ?l__law_right ?c__law_right ?k__law_right ?a_law ?l_law ?c_law ?k_law ?z_abs ?z_bool ?z_int ?z_isinstance ?z_len ?z_list ?z_ord ?z_range ?g_FIRST
    (case a_mark_of => k_is)
    (case l_mark_of => k_is)
    (case c_mark_of => k_is)
    (case k_mark_of => k_is)
    (case a__law_tape => k_is)
    (case l__law_tape => k_is)
    (case c__law_tape => k_is)
    (case k__law_tape => k_is)
    (case a__law_draw => k_is)
    (case l__law_draw => k_is)
    (case c__law_draw => k_is)
    (case k__law_draw => k_is)
    (case a__law_signs => k_is)
    (case l__law_signs => k_is)
    (case c__law_signs => k_is)
    (case k__law_signs => k_is)
    (case a__law_joined => k_is)
    (case l__law_joined => k_is)
    (case c__law_joined => k_is)
    (case k__law_joined => k_is)
    (case a__law_mark => k_is)
    (case l__law_mark => k_is)
    (case c__law_mark => k_is)
    (case k__law_mark => k_is)
    (case a__law_text => k_is)
    (case l__law_text => k_is)
    (case c__law_text => k_is)
    (case k__law_text => k_is)
    (case a__law_near => k_is)
    (case l__law_near => k_is)
    (case c__law_near => k_is)
    (case k__law_near => k_is)
    (case a__law_right => k_is)
    (case l__law_right => k_is)
    (case c__law_right => k_is)
    (case k__law_right => k_is)
    (case a_law => k_is)
    (case l_law => k_is)
    (case c_law => k_is)
    (case k_law => k_is)
    (case z_abs => k_is)
    (case z_bool => k_is)
    (case z_int => k_is)
    (case z_isinstance => k_is)
    (case z_len => k_is)
    (case z_list => k_is)
    (case z_ord => k_is)
    (case z_range => k_is)
    (case g_FIRST => k_is)
#print axioms PySem.Challenge.cw_nightpaper_k04_marks_of_rows_holds
