import PyProof.Rows.All
import Wide.All
import OpenK.AllK
import Wide.FinOn
import HandS.ForMost
import HandS.IsInst
import HandS.Defaults
import HandS.FStr
import HandS.StrMore
import HandS.Flow
import HandS.More
import HandS.Walk
import HandS.Style
import HandS.ForExc
import HandS.ExcInit
import HandS.ExcIs
import HandS.ExcField
import HandS.WordsExc
import KE.KExcIs
import HandS.IntHex
import HandS.Codes
import PySem.Challenge.RW_nightpaper_k05_marks_written_and_read
set_option Elab.async false
set_option linter.all false
set_option maxRecDepth 100000
set_option maxHeartbeats 4000000
namespace Np
open PySem L2

/-! ### a def as it is called -/
structure OkF (P : Program) (w : World) (K : PySem.W.Frag) (mg : Str → Option Value) (base : Heap) (CX : CXT) (k : Nat) (x : Str) (ps : List Str) (sp : Sp) (f : Addr) (fd : FuncData) : Prop where
  ok : FnOk P w K mg base CX k f fd ps sp
  m : mg x = some (.ref f)
  kp : PySem.W.keepIn K (.ref f) = true

def Glb (mg : Str → Option Value) (x : Str) (v : V) : Prop := ∃ u, mg x = some u ∧ RelV v u

section
variable {X : Cx} {k n : Nat} {f : Addr} {fd : FuncData} {ps ks : List Str} {sp : Sp} {x : Str} {p pos : Pos} {e : Expr} {es : List Expr} {kws : List Keyword} {t tk : TA} {v : V}
theorem pe_g (h : Glb X.mg x v) (hg : Gl X x := by rfl) (hd : (x == ("__debug__" : Str)) = false := by decide) : PE X (.Name x pos) (tC v) := by
  obtain ⟨u, hm, r⟩ := h
  exact pe_glob hg hm r hd
/-- f(e, ..), no defaults -/
theorem pe_f (O : OkF X.prog X.w X.K X.mg X.base CX0 k x ps sp f fd) (b : Binds X.K fd ps []) (hr : Room k X.A) (hx : Passes CX0 X E0) (ha : PA X (e :: es) t) (hg : Gl X x := by rfl)
    (hdb : (x == ("__debug__" : Str)) = false := by decide) (he : starEach (e :: es) X.env = (false, eval e X.env) :: starEach es X.env := by rfl) (hpl : (backTo pos (starEach es X.env)).any (·.1) = false := by rfl) :
    PE X (.Call (.Name x p) (e :: es) [] pos) (tCall sp [] E0 t) := pe_call O.ok hr hg O.m O.kp b .nil hx ha hdb he hpl
theorem pe_f0 (O : OkF X.prog X.w X.K X.mg X.base CX0 k x ps sp f fd) (b : Binds X.K fd ps []) (hr : Room k X.A) (hx : Passes CX0 X E0) (hg : Gl X x := by rfl)
    (hdb : (x == ("__debug__" : Str)) = false := by decide) : PE X (.Call (.Name x p) [] [] pos) (tCall sp [] E0 tNil) := pe_call0 O.ok hr hg O.m O.kp b .nil hx hdb
/-- f(e, ..), the rest by defaults -/
theorem pe_fD {dvs : List V} (O : OkF X.prog X.w X.K X.mg X.base CX0 k x ps sp f fd) (b : ∃ ds, Vals dvs ds ∧ Binds X.K fd ps ds) (hr : Room k X.A) (hx : Passes CX0 X E0) (ha : PA X (e :: es) t) (hg : Gl X x := by rfl)
    (hdb : (x == ("__debug__" : Str)) = false := by decide) (he : starEach (e :: es) X.env = (false, eval e X.env) :: starEach es X.env := by rfl) (hpl : (backTo pos (starEach es X.env)).any (·.1) = false := by rfl) :
    PE X (.Call (.Name x p) (e :: es) [] pos) (tCall sp dvs E0 t) := by
  obtain ⟨ds, hv, hb⟩ := b
  exact pe_call O.ok hr hg O.m O.kp hb hv hx ha hdb he hpl
def KB (K : PySem.W.Frag) (fd : FuncData) (ps : List Str) (n : Nat) (ks : List Str) (gV : List V → List V → List V) : Prop := ∃ g, KBn K fd ps n ks g gV
theorem pe_fK {gV : List V → List V → List V} (O : OkF X.prog X.w X.K X.mg X.base CX0 k x ps sp f fd) (b : KB X.K fd ps n ks gV) (hr : Room k X.A) (hx : Passes CX0 X E0)
    (ha : PA X (e :: es) t) (hkw : PK X kws tk) (hg : Gl X x := by rfl) (hall : (backToKw pos (keywordEach kws X.env)).all (·.1.isSome) = true := by rfl) (hks : (backToKw pos (keywordEach kws X.env)).filterMap (·.1) = ks := by rfl)
    (hdb : (x == ("__debug__" : Str)) = false := by decide) (he : starEach (e :: es) X.env = (false, eval e X.env) :: starEach es X.env := by rfl)
    (hpl : ((backTo pos (starEach (e :: es) X.env)).any (·.1) || (backToKw pos (keywordEach kws X.env)).any (·.1.isNone)) = false := by rfl) :
    PE X (.Call (.Name x p) (e :: es) kws pos) (tCallN n ks.length sp gV E0 t tk) := by
  obtain ⟨g, hb⟩ := b
  exact pe_callN O.ok hr hg O.m O.kp hb hx ha hkw hall hks hdb he hpl
theorem pe_fK0 {gV : List V → List V → List V} (O : OkF X.prog X.w X.K X.mg X.base CX0 k x ps sp f fd) (b : KB X.K fd ps 0 ks gV) (hr : Room k X.A) (hx : Passes CX0 X E0)
    (hkw : PK X kws tk) (hg : Gl X x := by rfl) (hall : (backToKw pos (keywordEach kws X.env)).all (·.1.isSome) = true := by rfl) (hks : (backToKw pos (keywordEach kws X.env)).filterMap (·.1) = ks := by rfl)
    (hdb : (x == ("__debug__" : Str)) = false := by decide)
    (hpl : ((backTo pos (starEach [] X.env)).any (·.1) || (backToKw pos (keywordEach kws X.env)).any (·.1.isNone)) = false := by rfl) :
    PE X (.Call (.Name x p) [] kws pos) (tCallN 0 ks.length sp gV E0 tNil tk) := by
  obtain ⟨g, hb⟩ := b
  refine ⟨fun pins s σ H Q I h => ?_⟩
  refine wpAny_Call_Name_kw (ld_glob I hg O.m ?_ hdb)
  refine PySem.W.callWith_KW0 (h₀ := X.base) I.ok.mod.kin O.kp hall ?_ hpl
  refine L2.thn (hkw.run pos pins s σ H _ I h) fun ws s2 ⟨zs, H2, I2, rz, l1, l2, q2⟩ => ⟨I2.kIn, ?_⟩
  rw [hks]
  exact run_fnN (us := []) (vs := []) O.ok hr hb hx I2 .nil rz l1 l2 q2
end
theorem Fun.kb {K : PySem.W.Frag} {x qual : Str} {st : Stmt} {f : Addr} {fd : FuncData} {ps : List Str} (F : Fun K x qual st f fd) (n : Nat) (ks : List Str) (g : {α : Type} → List α → List α → List α)
    (hrel : ∀ {vs zs : List V} {us ws : List Value}, Vals vs us → Vals zs ws → Vals (g vs zs) (g us ws))
    (h : ∀ (kV doc pm : Value) (an : Option Addr) (cdv ct : Value) (us ws : List Value), us.length = n → ws.length = ks.length → bindArgs (PySem.W.fnOf x qual (defArgs st) (defBody st) (defScope st) .none kV doc pm an cdv ct) ⟨us, ks.zip ws⟩ = pure (ps.zip (g us ws))) : KB K fd ps n ks g := by
  obtain ⟨oc, od, kV, doc, pm, an, cdv, ct, osl, rfl, lk, hcd⟩ := F.ex
  exact ⟨fun us ws => g us ws, ⟨fun s us ws X l1 l2 => .of_eq (h kV doc pm an cdv ct us ws l1 l2), fun r1 r2 => hrel r1 r2⟩⟩

/-! ### heaps: what stays -/
theorem same_new {H : Hp} {p : Addr} {o : HO} (h : H p = none) : Same H (upd H p o) := fun a u e => by
  rw [upd_ne (ne_of_none e h)]
  exact e
theorem same_mut {G H : Hp} {p : Addr} {o : HO} (e : Same G H) (h : G p = none) : Same G (upd H p o) := fun a u ha => by
  rw [upd_ne (ne_of_none ha h)]
  exact e a u ha
theorem same_both {G H : Hp} {p : Addr} {o : HO} (e : Same G H) : Same (upd G p o) (upd H p o) := fun a u ha => by
  by_cases hp : a = p
  · subst hp
    rw [upd_same] at ha
    rw [upd_same]
    exact ha
  · rw [upd_ne hp] at ha
    rw [upd_ne hp]
    exact e a u ha

/-! ### list(text) -/
theorem call_listS {X : Cx} (hc : X.calm = true) : CallR X (.type "list") (fun xs H Q => ∃ z : Str, xs = [.str z] ∧ z.length ≤ sizeLine ∧ ∀ q, H q = none → Q (.ref q) (upd H q (.lst (z.cps.toList.map fun c => V.str ⟨#[c]⟩)))) := by
  intro pins s σ H xs us Q I r h
  obtain ⟨z, rfl, hz, q⟩ := h
  obtain ⟨u, rfl, t, rfl⟩ := vals1 r
  refine PySem.call_list_str (I.ok.hd hc) z t (fun h' tk acc c' hk e hi => ?_) hz
  refine ⟨.ref s.heap.objs.size, upd H s.heap.objs.size (.lst (z.cps.toList.map fun c => V.str ⟨#[c]⟩)), I.laid hk (Nat.le_refl _) ⟨by rw [List.length_map, Array.length_toList]; exact hz, acc.toList, c', ?_, by rw [Array.toArray_toList]; exact e⟩, rfl, q _ (I.hok.fresh (Nat.le_refl _))⟩
  refine vals_of_idx _ _ (by rw [List.length_map, Array.length_toList, Array.length_toList]; exact hi.1) fun j u hj => ?_
  obtain ⟨c, t', hc, rfl⟩ := hi.2 j u (by rw [← Array.getElem?_toList]; exact hj)
  exact ⟨.str ⟨#[c]⟩, by simp [hc], ⟨_, rfl⟩⟩
end Np
namespace Np
open PySem L2
/-- what follows a statement, once for all its ways -/
theorem seq_have {t rest : TS} {D : Ends} {σ : St} {H : Hp} (Mid : St → Hp → Prop) (h2 : ∀ σ H, Mid σ H → rest D σ H) (h1 : (∀ σ H, Mid σ H → rest D σ H) → tSeq t rest D σ H) : tSeq t rest D σ H := h1 h2
theorem asgc_step {v : V} {i : Nat} {rest : TS} {D : Ends} {σ : St} {H : Hp} (h : rest D (σ.set i (some v)) H) : tSeq (tAsg (tC v) (gName i)) rest D σ H := h
theorem dp_ints {K : PySem.W.Frag} {H : Hp} : ∀ ns : List Int, DpAll K H (ns.map V.int) (ns.map PyData.int)
  | [] => .nil
  | n :: ns => .cons (.int n) (dp_ints ns)
/-- data that can be held beside others: k the depth -/
def Fine (k : Nat) (d : PyData) : Prop := PyData.canLay0 d = true ∧ PyData.depth d ≤ k
theorem canLayAll_of : ∀ {ds : List PyData}, (∀ d ∈ ds, PyData.canLay0 d = true) → PyData.canLayAll0 ds = true
  | [], _ => rfl
  | d :: ds, h => by
    show (PyData.canLay0 d && PyData.canLayAll0 ds) = true
    rw [h d List.mem_cons_self, canLayAll_of fun x hx => h x (List.mem_cons_of_mem _ hx)] <;> rfl
theorem depthAll_of {k : Nat} : ∀ {ds : List PyData}, (∀ d ∈ ds, PyData.depth d ≤ k) → PyData.depthAll ds ≤ k
  | [], _ => Nat.zero_le _
  | d :: ds, h => by
    show max (PyData.depth d) (PyData.depthAll ds) ≤ k
    exact Nat.max_le.mpr ⟨h d List.mem_cons_self, depthAll_of fun x hx => h x (List.mem_cons_of_mem _ hx)⟩
theorem Fine.list {k : Nat} {ds : List PyData} (h : ∀ d ∈ ds, Fine k d) : Fine (k + 1) (.list ds) := ⟨canLayAll_of fun d hd => (h d hd).1, Nat.succ_le_succ (depthAll_of fun d hd => (h d hd).2)⟩
theorem Fine.tuple {k : Nat} {ds : List PyData} (h : ∀ d ∈ ds, Fine k d) : Fine (k + 1) (.tuple ds) := ⟨canLayAll_of fun d hd => (h d hd).1, Nat.succ_le_succ (depthAll_of fun d hd => (h d hd).2)⟩
theorem Fine.int (i : Int) : Fine 0 (.int i) := ⟨rfl, Nat.le_refl _⟩
theorem Fine.bool (b : Bool) : Fine 0 (.bool b) := ⟨rfl, Nat.le_refl _⟩
theorem Fine.none : Fine 0 .none := ⟨rfl, Nat.le_refl _⟩
theorem Fine.str {x : Str} (h : PyData.strOk x = true) : Fine 0 (.str x) := ⟨h, Nat.le_refl _⟩
theorem Fine.mono {j k : Nat} {d : PyData} (h : Fine j d) (hk : j ≤ k) : Fine k d := ⟨h.1, Nat.le_trans h.2 hk⟩
theorem Fine.shaped {k : Nat} {d : PyData} (h : Fine k d) (hk : k ≤ 64 := by decide) : SeqAt.shaped d = true := by
  unfold SeqAt.shaped
  rw [h.1, decide_eq_true (Nat.le_trans h.2 hk)] <;> rfl
theorem fine_ints (ns : List Int) : Fine 1 (.list (ns.map PyData.int)) := Fine.list fun d hd => by
  obtain ⟨i, _, rfl⟩ := List.mem_map.mp hd
  exact Fine.int i
theorem shaped_ints (ns : List Int) : SeqAt.shaped (.list (ns.map PyData.int)) = true := (fine_ints ns).shaped
theorem eqv_nil (ds : List PyData) : PyData.eqv (.list ds) (.list []) = ds.isEmpty := by
  cases ds <;> rfl
theorem atI_mod {ns : List Int} {i : Int} (h0 : 0 ≤ i) (h1 : i < ns.length) : ∃ v, atI (ns.map V.int) i = some (.int v) := by
  obtain ⟨j, rfl⟩ := Int.eq_ofNat_of_zero_le h0
  have hj : j < ns.length := by omega
  exact ⟨ns[j], atI_nat (by rw [List.getElem?_map, List.getElem?_eq_getElem hj] <;> rfl)⟩
end Np
namespace Np
open PySem L2
/-! ### kinds of things -/
/-- a thing of a built-in kind -/
def Th (H : Hp) (v : V) : Prop := v = .non ∨ (∃ b, v = .bl b) ∨ (∃ i, v = .int i) ∨ (∃ x, v = .str x) ∨ (∃ a xs, v = .ref a ∧ H a = some (.lst xs)) ∨ (∃ a xs, v = .ref a ∧ H a = some (.tup xs)) ∨ (∃ a kvs, v = .ref a ∧ H a = some (.dK kvs))
theorem Th.mono {G H : Hp} {v : V} (s : Same G H) (h : Th G v) : Th H v := by
  rcases h with h | h | h | h | ⟨a, xs, e, h⟩ | ⟨a, xs, e, h⟩ | ⟨a, xs, e, h⟩
  · exact .inl h
  · exact .inr (.inl h)
  · exact .inr (.inr (.inl h))
  · exact .inr (.inr (.inr (.inl h)))
  · exact .inr (.inr (.inr (.inr (.inl ⟨a, xs, e, s _ _ h⟩))))
  · exact .inr (.inr (.inr (.inr (.inr (.inl ⟨a, xs, e, s _ _ h⟩)))))
  · exact .inr (.inr (.inr (.inr (.inr (.inr ⟨a, xs, e, s _ _ h⟩)))))
theorem Th.bl {H : Hp} (b : Bool) : Th H (.bl b) := .inr (.inl ⟨b, rfl⟩)
theorem Th.int {H : Hp} (i : Int) : Th H (.int i) := .inr (.inr (.inl ⟨i, rfl⟩))
theorem Th.str {H : Hp} (x : Str) : Th H (.str x) := .inr (.inr (.inr (.inl ⟨x, rfl⟩)))
theorem Th.lst {H : Hp} {a : Addr} {xs : List V} (h : H a = some (.lst xs)) : Th H (.ref a) := .inr (.inr (.inr (.inr (.inl ⟨a, xs, rfl, h⟩))))
theorem Th.tup {H : Hp} {a : Addr} {xs : List V} (h : H a = some (.tup xs)) : Th H (.ref a) := .inr (.inr (.inr (.inr (.inr (.inl ⟨a, xs, rfl, h⟩)))))
theorem Th.dK {H : Hp} {a : Addr} {xs : List (Key × V)} (h : H a = some (.dK xs)) : Th H (.ref a) := .inr (.inr (.inr (.inr (.inr (.inr ⟨a, xs, rfl, h⟩)))))
/-- isinstance by int, bool, str -/
def isK (c : String) : V → Bool
  | .str _ => c == "str"
  | .int _ => c == "int"
  | .bl _ => c == "bool" || c == "int"
  | _ => false
theorem isi_of {K : PySem.W.Frag} {H : Hp} {v : V} (h : Th H v) (c : String) (hc : c = "int" ∨ c = "str" ∨ c = "bool") : ∃ t, TyX K H v t ∧ PySem.W.kitOne K t (.type c) = some (isK c v) := by
  rcases h with rfl | ⟨b, rfl⟩ | ⟨i, rfl⟩ | ⟨x, rfl⟩ | ⟨a, xs, rfl, h⟩ | ⟨a, xs, rfl, h⟩ | ⟨a, xs, rfl, h⟩
  · exact ⟨_, .base .non, by rcases hc with rfl | rfl | rfl <;> exact kit_ty (by first | (show kitB _ _ = some true; decide +kernel) | (show kitB _ _ = some false; decide +kernel))⟩
  · exact ⟨_, .base (.bl b), by rcases hc with rfl | rfl | rfl <;> exact kit_ty (by first | (show kitB _ _ = some true; decide +kernel) | (show kitB _ _ = some false; decide +kernel))⟩
  · exact ⟨_, .base (.int i), by rcases hc with rfl | rfl | rfl <;> exact kit_ty (by first | (show kitB _ _ = some true; decide +kernel) | (show kitB _ _ = some false; decide +kernel))⟩
  · exact ⟨_, .base (.str x), by rcases hc with rfl | rfl | rfl <;> exact kit_ty (by first | (show kitB _ _ = some true; decide +kernel) | (show kitB _ _ = some false; decide +kernel))⟩
  · exact ⟨_, .base (.lst h), by rcases hc with rfl | rfl | rfl <;> exact kit_ty (by first | (show kitB _ _ = some true; decide +kernel) | (show kitB _ _ = some false; decide +kernel))⟩
  · exact ⟨_, .base (.tup h), by rcases hc with rfl | rfl | rfl <;> exact kit_ty (by first | (show kitB _ _ = some true; decide +kernel) | (show kitB _ _ = some false; decide +kernel))⟩
  · exact ⟨_, .base (.dK h), by rcases hc with rfl | rfl | rfl <;> exact kit_ty (by first | (show kitB _ _ = some true; decide +kernel) | (show kitB _ _ = some false; decide +kernel))⟩
theorem isK_str {v : V} (h : isK "str" v = true) : ∃ x, v = .str x := by
  cases v with
  | str x => exact ⟨x, rfl⟩
  | _ => exact absurd h (by first | exact Bool.false_ne_true | decide)
theorem isK_int {v : V} (h : isK "int" v = true) (h' : isK "bool" v = false) : ∃ i, v = .int i := by
  cases v with
  | int x => exact ⟨x, rfl⟩
  | bl b => exact absurd (show true = false from h') (by decide)
  | _ => exact absurd h (by first | exact Bool.false_ne_true | decide)
/-- a turn of a comprehension adds a value -/
theorem lc_add {H1 H H4 : Hp} {D : Addr} {acc : List V} {y : V} {Pv : Hp → Prop} (hD : H1 D = none) (s : Same H1 H) (s' : Same H H4) (h : H D = some (.lst acc)) (hl : acc.length < sizeLine)
    (k : Same H1 (upd H4 D (.lst (acc ++ [y]))) → (upd H4 D (.lst (acc ++ [y]))) D = some (.lst (acc ++ [y])) → Pv (upd H4 D (.lst (acc ++ [y])))) : ∃ acc, H4 D = some (.lst acc) ∧ acc.length < sizeLine ∧ Pv (upd H4 D (.lst (acc ++ [y]))) :=
  ⟨acc, s' _ _ h, hl, k (same_mut (s.trans s') hD) upd_same⟩
theorem take_succ_map {α β : Type} (f : α → β) {xs : List α} {i : Nat} {x : α} (h : xs[i]? = some x) : (xs.take (i + 1)).map f = (xs.take i).map f ++ [f x] := by
  rw [List.take_add_one, h, List.map_append] <;> rfl
theorem take_succ_filter {α : Type} (p : α → Bool) {xs : List α} {i : Nat} {x : α} (h : xs[i]? = some x) : (xs.take (i + 1)).filter p = (xs.take i).filter p ++ (if p x = true then [x] else []) := by
  rw [List.take_add_one, h, List.filter_append]
  show _ ++ List.filter p [x] = _
  rw [List.filter_cons, List.filter_nil]
theorem cutV_ints (ns : List Int) (lo hi : Option Int) : ∃ ms : List Int, cutV (ns.map V.int) lo hi = ms.map V.int := by
  unfold cutV
  rw [← List.map_drop, ← List.map_take]
  exact ⟨_, rfl⟩
theorem in_signs (c : Nat) (cs : List Nat) : inV (.str ⟨#[c]⟩) (cs.map fun c => V.str ⟨#[c]⟩) = decide (c ∈ cs) := by
  unfold inV
  induction cs with
  | nil => rfl
  | cons d cs ih =>
    rw [List.map_cons, List.any_cons, ih]
    show ((⟨#[d]⟩ : Str) == (⟨#[c]⟩ : Str) || _) = _
    by_cases h : c = d
    · subst h
      simp
    · have h2 : ((⟨#[d]⟩ : Str) == (⟨#[c]⟩ : Str)) = false := by
        rw [beq_eq_false_iff_ne]
        intro e
        injection e with e
        injection e with e
        injection e with e
        exact h e.symm
      rw [h2, Bool.false_or]
      by_cases h3 : c ∈ cs
      · rw [decide_eq_true h3, decide_eq_true (List.mem_cons_of_mem _ h3)]
      · rw [decide_eq_false h3, decide_eq_false (fun z => by exact (List.mem_cons.mp z).elim h h3)]
theorem flat_signs (cs : List Nat) : (cs.map fun c => V.str ⟨#[c]⟩).all flatV = true := by
  rw [List.all_map]
  exact List.all_eq_true.mpr fun _ _ => rfl
theorem len_add (x y : Str) : (x ++ y).length = x.length + y.length := by
  show (x.cps ++ y.cps).size = _
  rw [Array.size_append] <;> rfl
theorem len_cut (z : Str) (lo hi : Option Int) : (cutS z lo hi).length ≤ z.length := by
  unfold cutS
  show (List.toArray _).size ≤ _
  rw [List.size_toArray, List.length_take, List.length_drop, Array.length_toList]
  show _ ≤ z.cps.size
  omega
end Np
namespace Np
open PySem L2
/-! ### rules whose readings name the written part, the part written out (for a comprehension's block) -/
section
variable {X : Cx} (K : PySem.W.Frag)
theorem op_in_seqK (h : X.K = K := by rfl) : OpR X (compareOp .In) (rIn K false) := by subst h; exact op_in_seq
theorem op_notIn_seqK (h : X.K = K := by rfl) : OpR X (compareOp .NotIn) (rIn K true) := by subst h; exact op_notIn_seq
theorem op_eqDK (hu : X.A.units + 64 < cLine) (h : X.K = K := by rfl) : OpR X (compareOp .Eq) (rEqD K) := by subst h; exact op_eqD hu
theorem op_neDK (hu : X.A.units + 64 < cLine) (h : X.K = K := by rfl) : OpR X (compareOp .NotEq) (rNeD K) := by subst h; exact op_neD hu
theorem op_catTK (h : X.K = K := by rfl) : OpR X (binaryOp .Add) (rCatT K) := by subst h; exact op_catT
theorem ix_listK (h : X.K = K := by rfl) : IxR X (rIxL K) := by subst h; exact ix_list
theorem ix_tupK (h : X.K = K := by rfl) : IxR X (rIxT K) := by subst h; exact ix_tup
theorem sl_listK (h : X.K = K := by rfl) : SlR X (rSlL K) := by subst h; exact sl_list
theorem sl_tupK (h : X.K = K := by rfl) : SlR X (rSlT K) := by subst h; exact sl_tup
def rLenK : List V → Hp → VK → Prop := fun xs H Q => ∃ p ys, xs = [.ref p] ∧ (SqL K H p ys ∨ SqT K H p ys) ∧ Q (.int ys.length) H
theorem call_lenK (h : X.K = K := by rfl) : CallR X (.builtin "len") (rLenK K) := by subst h; exact call_len_seq
def rListK : List V → Hp → VK → Prop := fun xs H Q => ∃ p ys, xs = [.ref p] ∧ (SqL K H p ys ∨ SqT K H p ys) ∧ ∀ l, H l = none → Q (.ref l) (upd H l (.lst ys))
theorem call_listK (h : X.K = K := by rfl) : CallR X (.type "list") (rListK K) := by subst h; exact call_list_of
def rTupleK : List V → Hp → VK → Prop := fun xs H Q => ∃ p ys, xs = [.ref p] ∧ ((SqL K H p ys ∧ ∀ l, H l = none → Q (.ref l) (upd H l (.tup ys))) ∨ (SqT K H p ys ∧ Q (.ref p) H))
theorem call_tupleK (h : X.K = K := by rfl) : CallR X (.type "tuple") (rTupleK K) := by subst h; exact call_tuple_of
theorem cr_sumK (hc : X.calm = true) (h : X.K = K := by rfl) : CallR X (.builtin "sum") (rSum K) := by subst h; exact cr_sum hc
theorem cr_maxK (hc : X.calm = true) (h : X.K = K := by rfl) : CallR X (.builtin "max") (rMax K) := by subst h; exact cr_max hc
theorem cr_minK (hc : X.calm = true) (h : X.K = K := by rfl) : CallR X (.builtin "min") (rMin K) := by subst h; exact cr_min hc
theorem cr_allK (hc : X.calm = true) (h : X.K = K := by rfl) : CallR X (.builtin "all") (rAll K) := by subst h; exact cr_all hc
theorem cr_anyK (hc : X.calm = true) (h : X.K = K := by rfl) : CallR X (.builtin "any") (rAny K) := by subst h; exact cr_any hc
theorem call_isiKK (h : X.K = K := by rfl) : CallR X (.builtin "isinstance") (rIsi K) := by subst h; exact call_isi
theorem call_isiTK (h : X.K = K := by rfl) : CallR X (.builtin "isinstance") (rIsiT K) := by subst h; exact call_isiT
theorem pi_listK {tg l : Expr} {tl : TE} (hl : PE X l tl) (h : X.K = K := by rfl) : PI X tg l (iList K tl) := by subst h; exact pi_list hl
theorem pi_tupK {tg l : Expr} {tl : TE} (hl : PE X l tl) (h : X.K = K := by rfl) : PI X tg l (iTup K tl) := by subst h; exact pi_tup hl
theorem pi_enumK {e : Expr} {ta : TA} {p pos tpos : Pos} {elts : List Expr} {kk : Nat} (hg : Gl X "enumerate") (hm : X.mg "enumerate" = none) (ha : PA X [e] ta) (hs : starEach [e] X.env = [(false, eval e X.env)] := by rfl) (h : X.K = K := by rfl) :
    PI X (.Tuple elts kk tpos) (.Call (.Name "enumerate" p) [e] [] pos) (iEnum K ta) := by subst h; exact pi_enum hg hm ha hs
theorem pi_zipK {e e2 : Expr} {ta : TA} {p pos tpos : Pos} {elts : List Expr} {kk : Nat} (hg : Gl X "zip") (hm : X.mg "zip" = none) (ha : PA X [e, e2] ta)
    (hs : starEach [e, e2] X.env = (false, eval e X.env) :: starEach [e2] X.env := by rfl) (hpl : (backTo pos (starEach [e2] X.env)).any (·.1) = false := by rfl) (h : X.K = K := by rfl) :
    PI X (.Tuple elts kk tpos) (.Call (.Name "zip" p) [e, e2] [] pos) (iZip K ta) := by subst h; exact pi_zip hg hm ha hs hpl
theorem pi_reversedK {tg e : Expr} {ta : TA} {p pos : Pos} (hg : Gl X "reversed") (hm : X.mg "reversed" = none) (ha : PA X [e] ta) (hs : starEach [e] X.env = [(false, eval e X.env)] := by rfl) (h : X.K = K := by rfl) :
    PI X tg (.Call (.Name "reversed" p) [e] [] pos) (iRev K ta) := by subst h; exact pi_reversed hg hm ha hs
theorem pg_tupK {es : List Expr} {k n : Nat} {t : TGs} {pos : Pos} (hc : X.calm = true) (h' : PGs X es t)
    (hn : (assignEach es X.env).length = n := by rfl) (hst : (assignEach es X.env).findIdx? (·.1) = none := by rfl) (h : X.K = K := by rfl) : PG X (.Tuple es k pos) (gTup K n t) := by subst h; exact pg_tup hc h' hn hst
def rJoinK : V → List V → Hp → VK → Prop := fun x xs H Q => ∃ a p, ∃ ys : List Str, x = .str a ∧ xs = [.ref p] ∧ (SqL K H p (ys.map V.str) ∨ SqT K H p (ys.map V.str)) ∧
      (ys.map (·.length)).sum + ys.length * a.length ≤ 16777216 ∧ Q (.str (Txt.join a ys)) H
theorem pe_joinK {o e : Expr} {to te : TE} {apos pos : Pos} (ho : PE X o to) (he : PE X e te) (hs : starEach [e] X.env = [(false, eval e X.env)] := by rfl) (hbase : attributeBase o "join" X.env (eval o X.env) = eval o X.env := by rfl) (hline : (apos.endLine == pos.line) = true := by rfl) (h : X.K = K := by rfl) :
    PE X (.Call (.Attribute o "join" apos) [e] [] pos) (tM1 (rJoinK K) to te) := by subst h; exact pe_join ho he hs hbase hline
theorem pe_bmK {T : String} {name : Str} {id : String} {r : V → List V → Hp → VK → Prop} {o e : Expr} {es : List Expr} {to : TE} {t : TA} {apos cpos : Pos} (pa : PlainAttrs T) (slot : Slot T name id) (hty : typeOf (.builtin id) = pure (.type "method_descriptor")) (hm : MtR X id r) (ho : PE X o to) (ha : PA X (e :: es) t)
    (hbase : attributeBase o name X.env (eval o X.env) = eval o X.env := by rfl)
    (hfew : ((backTo cpos (starEach (e :: es) X.env)).all (fun x => !x.1) && (backToKw cpos (keywordEach [] X.env)).all (fun x => x.1.isSome)
      && decide ((e :: es).length + ([] : List Keyword).length + (if ([] : List Keyword).isEmpty then 0 else 1) < 30)) = true := by rfl)
    (hline : (apos.endLine == cpos.line) = true := by rfl) (hs : starEach (e :: es) X.env = (false, eval e X.env) :: starEach es X.env := by rfl) (hplain : (backTo cpos (starEach es X.env)).any (·.1) = false := by rfl) (h : X.K = K := by rfl) :
    PE X (.Call (.Attribute o name apos) (e :: es) [] cpos) (tBM K T r to t) := by subst h; exact pe_bm pa slot hty hm ho ha hbase hfew hline hs hplain
theorem pe_bm0K {T : String} {name : Str} {id : String} {r : V → List V → Hp → VK → Prop} {o : Expr} {to : TE} {apos cpos : Pos} (pa : PlainAttrs T) (slot : Slot T name id) (hty : typeOf (.builtin id) = pure (.type "method_descriptor")) (hm : MtR X id r) (ho : PE X o to)
    (hbase : attributeBase o name X.env (eval o X.env) = eval o X.env := by rfl) (hline : (apos.endLine == cpos.line) = true := by rfl) (h : X.K = K := by rfl) : PE X (.Call (.Attribute o name apos) [] [] cpos) (tBM0 K T r to) := by subst h; exact pe_bm0 pa slot hty hm ho hbase hline
end
end Np
namespace Np
open PySem L2
/-! ### texts: how long at most, right signs -/
structure Tx (n : Nat) (x : Str) : Prop where
  len : x.length ≤ n
  ok : ∀ c ∈ x.cps.toList, c < 1114112
theorem Tx.strOk {n : Nat} {x : Str} (h : Tx n x) : PyData.strOk x = true := by
  unfold PyData.strOk
  rw [← Array.all_toList]
  exact List.all_eq_true.mpr fun c hc => decide_eq_true (h.ok c hc)
theorem Tx.mono {n m : Nat} {x : Str} (h : Tx n x) (hm : n ≤ m) : Tx m x := ⟨Nat.le_trans h.len hm, h.ok⟩
theorem Tx.add {n m : Nat} {x y : Str} (h : Tx n x) (h' : Tx m y) : Tx (n + m) (x ++ y) := by
  refine ⟨by rw [len_add]; exact Nat.add_le_add h.len h'.len, fun c hc => ?_⟩
  have e : (x ++ y).cps.toList = x.cps.toList ++ y.cps.toList := by
    show (x.cps ++ y.cps).toList = _
    rw [Array.toList_append]
  rw [e] at hc
  rcases List.mem_append.mp hc with q | q
  · exact h.ok c q
  · exact h'.ok c q
theorem Tx.cut {n : Nat} {x : Str} (h : Tx n x) (lo hi : Option Int) : Tx n (cutS x lo hi) := by
  refine ⟨Nat.le_trans (len_cut x lo hi) h.len, fun c hc => ?_⟩
  unfold cutS at hc
  exact h.ok c (List.mem_of_mem_drop (List.mem_of_mem_take hc))
theorem Tx.sign {c : Nat} (h : c < 1114112) : Tx 1 (⟨#[c]⟩ : Str) := ⟨Nat.le_refl _, fun d hd => by
  have e : d = c := List.mem_singleton.mp hd
  rw [e]
  exact h⟩
theorem atI_mem {α : Type} {xs : List α} {i : Int} {v : α} (h : atI xs i = some v) : v ∈ xs := by
  obtain ⟨j, _, hj, _⟩ := atI_get h
  exact List.mem_of_getElem? hj
theorem atI_some {α : Type} {xs : List α} {i : Int} (h0 : 0 ≤ i) (h1 : i < xs.length) : ∃ v, atI xs i = some v ∧ v ∈ xs := by
  obtain ⟨j, rfl⟩ := Int.eq_ofNat_of_zero_le h0
  have hj : j < xs.length := by omega
  exact ⟨xs[j], atI_nat (List.getElem?_eq_getElem hj), List.getElem_mem hj⟩
theorem Tx.at {n : Nat} {x : Str} {i : Int} {c : Nat} (h : Tx n x) (e : atI x.cps.toList i = some c) : Tx 1 (⟨#[c]⟩ : Str) := Tx.sign (h.ok c (atI_mem e))
theorem ofString_ok (s : String) : ∀ c ∈ (Str.ofString s).cps.toList, c < 1114112 := fun c hc => by
  rw [Str.ofString_eq_toList] at hc
  obtain ⟨d, _, rfl⟩ := List.mem_map.mp hc
  have h := d.valid
  have e : d.toNat = d.val.toNat := rfl
  rcases h with h | ⟨_, h⟩ <;> omega
theorem ofString_len (s : String) : (Str.ofString s).length = s.length := by
  rw [Str.ofString_eq_toList]
  show (List.toArray _).size = _
  rw [List.size_toArray, List.length_map, String.length_toList]
theorem Tx.num {i : Int} {k : Nat} (hk : 0 < k) (h : i.natAbs < 10 ^ k) : Tx (k + 1) (Str.ofString (toString i)) :=
  ⟨by rw [ofString_len]; exact int_text_length_le10 hk h, ofString_ok _⟩
theorem Tx.lit {n : Nat} (s : String) (h : (Str.ofString s).length ≤ n) : Tx n (Str.ofString s) := ⟨h, ofString_ok s⟩
theorem dp_strs {K : PySem.W.Frag} {H : Hp} : ∀ xs : List Str, DpAll K H (xs.map V.str) (xs.map PyData.str)
  | [] => .nil
  | x :: xs => .cons (.str x) (dp_strs xs)
theorem fine_strs {xs : List Str} (h : ∀ x ∈ xs, PyData.strOk x = true) : Fine 1 (.list (xs.map PyData.str)) := Fine.list fun d hd => by
  obtain ⟨x, hx, rfl⟩ := List.mem_map.mp hd
  exact Fine.str (h x hx)
end Np
namespace Np
open PySem L2
/-! ### all but one object is as it was -/
def But (t : Addr) (H H' : Hp) : Prop := ∀ b o, b ≠ t → H b = some o → H' b = some o
theorem But.refl {t : Addr} {H : Hp} : But t H H := fun _ _ _ h => h
theorem But.trans {t : Addr} {H H1 H2 : Hp} (a : But t H H1) (b : But t H1 H2) : But t H H2 := fun c o n h => b c o n (a c o n h)
theorem But.of {t : Addr} {H H' : Hp} (s : Same H H') : But t H H' := fun b o _ h => s b o h
theorem But.mut {t : Addr} {H : Hp} {o : HO} : But t H (upd H t o) := fun b u n h => by rw [upd_ne n]; exact h
theorem But.new {t p : Addr} {H : Hp} {o : HO} (n : H p = none) : But t H (upd H p o) := But.of (same_new n)
theorem But.same {t : Addr} {G H H' : Hp} (b : But t H H') (s : Same G H) (g : G t = none) : Same G H' := fun a o h => b a o (ne_of_none h g) (s a o h)
/-- a tape at tp, over what stays (G): its cells, how many were begun (at most n), what is left of a great one -/
def Tape (K : PySem.W.Frag) (G H : Hp) (tp : Addr) (n : Nat) : Prop := Same G H ∧ G tp = none ∧ ∃ (c : Addr) (ns : List Int) (at' left : Int),
  SqL K G c (ns.map V.int) ∧ H tp = some (.lst [.ref c, .int at', .int left]) ∧ 0 ≤ at' ∧ at' ≤ n ∧ 0 ≤ left
section
variable {K : PySem.W.Frag} {G H H' : Hp} {tp p : Addr} {n m : Nat} {o : HO}
theorem Tape.step {c : Addr} {ns : List Int} {a b : Int} (s : Same G H) (g : G tp = none) (hc : SqL K G c (ns.map V.int)) (h0 : 0 ≤ a) (h1 : a ≤ n) (h2 : 0 ≤ b) :
    Tape K G (upd H tp (.lst [.ref c, .int a, .int b])) tp n := ⟨same_mut s g, g, c, ns, a, b, hc, upd_same, h0, h1, h2⟩
theorem Tape.at (t : Tape K G H tp n) : ∃ xs, H tp = some (.lst xs) := by
  obtain ⟨_, _, c, ns, a, b, _, h, _⟩ := t
  exact ⟨_, h⟩
theorem Tape.ex (t : Tape K G H tp n) : ∃ u, H tp = some u := by
  obtain ⟨xs, h⟩ := t.at
  exact ⟨_, h⟩
theorem Tape.ne (t : Tape K G H tp n) (h : H p = none) : p ≠ tp := by
  obtain ⟨xs, e⟩ := t.at
  exact fun z => by rw [z, e] at h; cases h
theorem Tape.new (t : Tape K G H tp n) (h : H p = none) : Tape K G (upd H p o) tp n := by
  have e := t.ne h
  obtain ⟨s, g, c, ns, a, b, hc, hT, r⟩ := t
  exact ⟨s.trans (same_new h), g, c, ns, a, b, hc, by rw [upd_ne e.symm]; exact hT, r⟩
/-- another object, that does not stay, changes -/
theorem Tape.mut (t : Tape K G H tp n) (g' : G p = none) (e : p ≠ tp) : Tape K G (upd H p o) tp n := by
  obtain ⟨s, g, c, ns, a, b, hc, hT, r⟩ := t
  exact ⟨same_mut s g', g, c, ns, a, b, hc, by rw [upd_ne e.symm]; exact hT, r⟩
/-- an object stays from now on -/
theorem Tape.keep (t : Tape K G H tp n) (h : H p = some o) (e : p ≠ tp) (g' : G p = none) : Tape K (upd G p o) H tp n := by
  obtain ⟨s, g, c, ns, a, b, hc, hT, r⟩ := t
  refine ⟨fun q u hq => ?_, by rw [upd_ne e.symm]; exact g, c, ns, a, b, (same_new g').seq hc, hT, r⟩
  by_cases z : q = p
  · subst z
    rw [upd_same] at hq
    rw [← hq]
    exact h
  · rw [upd_ne z] at hq
    exact s q u hq
/-- a new object that stays -/
theorem Tape.newK (t : Tape K G H tp n) (h : H p = none) : Tape K (upd G p o) (upd H p o) tp n :=
  (t.new h).keep upd_same (t.ne h) (t.1.free h)
theorem Tape.mono (t : Tape K G H tp n) (h : n ≤ m) : Tape K G H tp m := by
  obtain ⟨s, g, c, ns, a, b, hc, hT, h0, h1, h2⟩ := t
  exact ⟨s, g, c, ns, a, b, hc, hT, h0, by omega, h2⟩
theorem Tape.free (t : Tape K G H tp n) (h : H p = none) : G p = none := t.1.free h
end
def spDraw (K : PySem.W.Frag) : Sp := fun vs H Q _ => ∃ (G : Hp) (tp : Addr) (n : Nat) (many : Int), vs = [.ref tp, .int many] ∧ Tape K G H tp n ∧ 0 < many ∧ many < 1073741824 ∧ n < 2 ^ 60 ∧
  ∀ r H', 0 ≤ r → r < many → But tp H H' → Tape K G H' tp (n + 1) → Q (.int r) H'
end Np
namespace Np
open PySem L2
theorem Tape.same {K : PySem.W.Frag} {G H H' : Hp} {tp : Addr} {n : Nat} (t : Tape K G H tp n) (s : Same H H') : Tape K G H' tp n := by
  obtain ⟨s0, g, c, ns, a, b, hc, hT, r⟩ := t
  exact ⟨s0.trans s, g, c, ns, a, b, hc, s _ _ hT, r⟩
theorem Tx.empty : Tx 0 (⟨#[]⟩ : Str) := ⟨Nat.le_refl _, fun c hc => by cases hc⟩
theorem Tx.join0 : ∀ {ys : List Str}, (∀ y ∈ ys, Tx 1 y) → Tx ys.length (Txt.join ("" : Str) ys)
  | [], _ => by
    rw [TL.join_eq]
    exact Tx.empty
  | [x], h => by
    rw [TL.join_eq]
    exact h x List.mem_cons_self
  | x :: z :: r, h => by
    have ih := Tx.join0 (ys := z :: r) fun y hy => h y (List.mem_cons_of_mem _ hy)
    rw [TL.join_eq] at ih ⊢
    show Tx _ (x ++ ("" : Str) ++ Str.join ("" : Str) (z :: r))
    exact (((h x List.mem_cons_self).add Tx.empty).add ih).mono (by simp only [List.length_cons]; omega)
theorem lens_le {n : Nat} : ∀ {ys : List Str}, (∀ y ∈ ys, Tx n y) → (ys.map (·.length)).sum ≤ ys.length * n
  | [], _ => Nat.zero_le _
  | y :: ys, h => by
    have ih := lens_le (ys := ys) fun z hz => h z (List.mem_cons_of_mem _ hz)
    have h1 := (h y List.mem_cons_self).len
    rw [List.map_cons, List.sum_cons, List.length_cons, Nat.succ_mul]
    omega
end Np
namespace Np
open PySem L2
theorem Tape.grow {K : PySem.W.Frag} {G H : Hp} {tp p : Addr} {n : Nat} {o : HO} (t : Tape K G H tp n) (h : H p = none) : ∃ G1, Same G G1 ∧ G1 p = some o ∧ Tape K G1 (upd H p o) tp n :=
  ⟨upd G p o, same_new (t.free h), upd_same, t.newK h⟩
end Np
namespace Np
open PySem PySem.Spec PyProof.Rows L2
/-! ### text[::-1] -/
def revS (z : Str) : Str := ⟨z.cps.toList.reverse.toArray⟩
def tRevS (te : TE) : TE := fun σ H Q => te σ H fun x H1 => ∃ z, x = .str z ∧ z.length ≤ sizeLine ∧ Q (.str (revS z)) H1
theorem pe_revS {X : Cx} {e : Expr} {te : TE} {k : Nat} {p1 p2 p3 pos : Pos} (he : PE X e te) : PE X (.Subscript e (.Slice none none (some (.UnaryOp .USub (.Constant (.int 1) k p1) p2)) p3) pos) (tRevS te) := by
  refine ⟨fun pins s σ H Q I h => ?_⟩
  refine Subscript_ (L2.thn (he.run pins s σ H _ I h) fun v s1 ⟨x, H1, I1, r1, q1⟩ => ?_)
  obtain ⟨z, ex, hz, q⟩ := q1
  subst ex
  obtain ⟨t, rfl⟩ := r1
  have hst : PO X (some (.UnaryOp .USub (.Constant (.int 1) k p1) p2)) (tPart (tUn (rU fun i => .int (-i)) (tC (.int 1)))) := po_some (pe_un un_neg pe_int)
  refine wpAny_Slice (L2.thn (po_none.run pins s1 σ H1 (fun o H2 => o = none ∧ H2 = H1) I1 ⟨rfl, rfl⟩) fun vl s2 ⟨l, H2, I2, pl, el, e2⟩ => ?_)
  subst el e2
  refine L2.thn (po_none.run pins s2 σ H2 (fun o H3 => o = none ∧ H3 = H2) I2 ⟨rfl, rfl⟩) fun vu s3 ⟨u, H3, I3, pu, eu, e3⟩ => ?_
  subst eu e3
  refine L2.thn (hst.run pins s3 σ H3 (fun o H4 => o = some (-1) ∧ H4 = H3) I3 ⟨1, rfl, -1, rfl, rfl, rfl⟩) fun vs s4 ⟨o, H4, I4, ps, eo, e4⟩ => ?_
  subst eo e4
  have I5 : Inv X pins σ H4 { s4 with heap := s4.heap.push { cls := .type "slice", data := .fields #[vl, vu, vs] } } := I4.kept (t' := s4.toks) fun b ob q => Heap.get?_push_of_some _ q
  show wpAny (model X.prog X.w) X.A (subscriptTail e (.Slice none none (some (.UnaryOp .USub (.Constant (.int 1) k p1) p2)) p3) (.str z t) (.ref s4.heap.objs.size)) (EP X pins σ Q) X.xe { s4 with heap := s4.heap.push { cls := .type "slice", data := .fields #[vl, vu, vs] } }
  refine tail_any (ops := [.str z t, .ref s4.heap.objs.size]) (typeIs_str _ _ _) (PySem.F.slot_str_getitem.lookup) ?_ (by with_unfolding_all rfl)
  obtain ⟨l', rfl, el⟩ := IsPart.raw pl
  obtain ⟨u', rfl, eu⟩ := IsPart.raw pu
  obtain ⟨st', rfl, es⟩ := IsPart.raw ps
  have hl : l' = none := by cases l' with | none => rfl | some p => exact nomatch el
  have hu : u' = none := by cases u' with | none => rfl | some p => exact nomatch eu
  subst hl hu
  obtain ⟨⟨m, tk⟩, rfl⟩ : ∃ p, st' = some p := by cases st' with | none => exact nomatch es | some p => exact ⟨p, rfl⟩
  obtain rfl : m = -1 := Option.some.inj es
  have isl : (s4.heap.push { cls := .type "slice", data := .fields #[partValue none, partValue none, partValue (some (-1, tk))] }).IsSlice s4.heap.objs.size none none (some (-1, tk)) :=
    ⟨_, Heap.get?_push_size _ rfl, rfl, rfl⟩
  refine wpAny_getItem_str_slice (l := none) (u := none) (st := some (-1, tk)) isl rfl ?_
  have e : Builtin.Str.strSliceIndices none none (-1) z.length = (List.range z.length).map fun k => z.length - 1 - k := PySem.W.krv_sliceRange z.length
  have e2 : ((List.range z.length).map fun k => z.length - 1 - k).filterMap (z.cps[·]?) = z.cps.toList.reverse := by
    rw [PySem.W.krv_range, List.filterMap_reverse]
    have := PySem.W.krv_all z.cps
    exact congrArg List.reverse this
  show Made.post (if ((-1 : Int) == 1 && (Builtin.Str.strSliceIndices none none (-1) z.length).length == z.length) = true then Made.val (.str z t)
    else Made.str ⟨((Builtin.Str.strSliceIndices none none (-1) z.length).filterMap (z.cps[·]?)).toArray⟩) (EP X pins σ Q) _
  rw [if_neg (by simp), e, e2]
  refine ⟨?_, .str _, H4, I5.tok _, ⟨_, rfl⟩, q⟩
  show (List.toArray _).size ≤ _
  rw [List.size_toArray, List.length_reverse, Array.length_toList]
  exact hz
theorem Tx.rev {n : Nat} {x : Str} (h : Tx n x) : Tx n (revS x) := by
  refine ⟨?_, fun c hc => h.ok c (List.mem_reverse.mp hc)⟩
  show (List.toArray _).size ≤ _
  rw [List.size_toArray, List.length_reverse, Array.length_toList]
  exact h.len
theorem pe_revLK {X : Cx} (K : PySem.W.Frag) {e : Expr} {te : TE} {k : Nat} {p1 p2 p3 pos : Pos} (he : PE X e te) (h : X.K = K := by rfl) : PE X (.Subscript e (.Slice none none (some (.UnaryOp .USub (.Constant (.int 1) k p1) p2)) p3) pos) (tRevL K te) := by subst h; exact pe_revL he
/-- slices of lists of texts -/
theorem cutV_strs (ys : List Str) (lo hi : Option Int) : ∃ zs : List Str, cutV (ys.map V.str) lo hi = zs.map V.str ∧ (∀ z ∈ zs, z ∈ ys) ∧ zs.length ≤ ys.length := by
  unfold cutV
  rw [← List.map_drop, ← List.map_take]
  exact ⟨_, rfl, fun z hz => List.mem_of_mem_drop (List.mem_of_mem_take hz), by rw [List.length_take, List.length_drop]; omega⟩
end Np
namespace Np
open PySem L2
theorem Tx.size {n : Nat} {x : Str} (h : Tx n x) (hs : n ≤ 16777216 := by omega) : x.length ≤ sizeLine := by
  rw [sizeLine_eq]
  exact Nat.le_trans h.len hs
theorem Tx.fit {n m : Nat} {x y : Str} (h : Tx n x) (h' : Tx m y) (hs : n + m ≤ 16777216 := by omega) : x.length + y.length ≤ sizeLine := by
  rw [sizeLine_eq]
  exact Nat.le_trans (Nat.add_le_add h.len h'.len) hs
theorem size_of {n : Nat} (h : n ≤ 16777216 := by omega) : n ≤ sizeLine := by rw [sizeLine_eq]; exact h
theorem size_lt {n : Nat} (h : n < 16777216 := by omega) : n < sizeLine := by rw [sizeLine_eq]; exact h
theorem toList_add (x y : Str) : (x ++ y).cps.toList = x.cps.toList ++ y.cps.toList := by
  show (x.cps ++ y.cps).toList = _
  rw [Array.toList_append]
theorem nl_eq : (Str.ofString "\n") = (⟨#[10]⟩ : Str) := by decide +kernel
theorem eqv_refl {k : Nat} {d : PyData} (h : Fine k d) : PyData.eqv d d = true := SeqAt.eqv_refl d h.1
end Np
namespace Np
open PySem L2
theorem But.free {t p : Addr} {H H' : Hp} (b : But t H H') (h : H' p = none) (e : p ≠ t) : H p = none := by
  cases q : H p with
  | none => rfl
  | some o => rw [b p o e q] at h; cases h
theorem But.mutN {t p : Addr} {H H' : Hp} {o : HO} (b : But t H H') (h : H p = none) : But t H (upd H' p o) := fun a u n e => by
  rw [upd_ne (ne_of_none e h)]
  exact b a u n e
end Np

set_option Elab.async false
set_option linter.all false
set_option maxRecDepth 100000
set_option maxHeartbeats 4000000
namespace Np
open PySem PySem.Spec PyProof.Rows L2

/-! ### an exception that is kept: tracked, by its object -/
def exk (a : Addr) (oe : Obj) : HO := .ext fun h => h.get? a = some oe
theorem exk_ok {P : Program} {w : World} {H : Hp} {h : Heap} {a : Addr} {oe : Obj} (e : h.get? a = some oe) : ObjOk P w H h a (exk a oe) :=
  ⟨e, ⟨oe, e⟩, fun _ _ z keep => keep _ z⟩
theorem exk_at {P : Program} {w : World} {H : Hp} {h : Heap} {a : Addr} {oe : Obj} (hok : HOk P w H h) (e : H a = some (exk a oe)) : h.get? a = some oe := by
  have x : ObjOk P w H h a (.ext fun h => h.get? a = some oe) := hok a _ e
  exact x.1
section
variable {X : Cx} {pins : List (Addr × Obj)} {σ : L2.St} {H : Hp} {s : Shared} {a : Addr} {oe : Obj} {vs : Array Value}
/-- an object of fields, new behind the entry and tracked by nobody, is tracked from now on -/
theorem track (I : L2.Inv X pins σ H s) (e : s.heap.get? a = some oe) (hd : oe.data = .fields vs) (na : H a = none) (n0 : X.s_0.heap.get? a = none) (nL : a ≠ X.env.locals) (nP : ∀ p ∈ X.pn ++ pins, p.1 ≠ a) :
    L2.Inv X pins σ (upd H a (exk a oe)) s := by
  have ne_some : ∀ {b : Addr} {u : HO}, H b = some u → b ≠ a := fun hb => ne_of_none hb na
  refine ⟨I.ok, I.os, I.bare, ?_, I.loc, I.cell, ?_, ?_, ?_, ?_, I.len⟩
  · refine ⟨I.base.keep, I.base.slot, fun b o q n x => ?_, I.base.there, fun b xs q => ?_, fun b o u q => ?_, fun b ps q => ?_⟩
    · have hb : b ≠ a := fun z => by rw [z, n0] at q; cases q
      rw [upd_ne hb]
      exact I.base.free b o q n x
    · have q' := I.base.tups b xs q
      rw [upd_ne (ne_some q')]
      exact q'
    · have q' := I.base.frzs b o u q
      rw [upd_ne (ne_some q')]
      exact q'
    · obtain ⟨more, q'⟩ := I.base.tbls b ps q
      exact ⟨more, by rw [upd_ne (ne_some q')]; exact q'⟩
  · rw [upd_ne (Ne.symm nL)]
    exact I.free
  · intro x c hc
    have hca : c ≠ a := fun z => by
      obtain ⟨v, o, ho, hcell⟩ := I.cell x c hc
      rw [z, e] at ho
      cases ho
      rw [hd] at hcell
      exact nomatch hcell
    rw [upd_ne hca]
    exact I.freeC x c hc
  · intro p hp
    obtain ⟨p1, p2, p3⟩ := I.pin p hp
    exact ⟨p1, by rw [upd_ne (nP p hp)]; exact p2, p3⟩
  · intro b o q
    by_cases hb : b = a
    · subst hb
      rw [upd_same] at q
      cases q
      exact exk_ok e
    · rw [upd_ne hb] at q
      exact (I.hok b o q).stay (fun _ _ _ z => z) (fun c hc => by rw [upd_ne (ne_some hc)]; exact hc) (fun c xs hc => by rw [upd_ne (ne_some hc)]; exact hc)
end
section
variable {X : Cx} {body suite : List Stmt} {b₀ : Stmt} {x n : Str} {i : Nat} {c : Value} {np pos' pos : Pos} {tb : WX → TS} {ts : Addr → Value → Option Addr → TS} {Wout : WX}
/-- the ends of the suite of a clause whose exception is kept: its name goes, the exception is tracked -/
def endsK (a : Addr) (oe : Obj) (i : Nat) (D : Ends) : Ends :=
  ⟨fun σ' H' => D.nx (σ'.set i none) (upd H' a (exk a oe)), fun v H' => D.rt v (upd H' a (exk a oe)), fun σ' H' => D.bk (σ'.set i none) (upd H' a (exk a oe)), fun σ' H' => D.ct (σ'.set i none) (upd H' a (exk a oe))⟩
/-- what 'except x as n' wishes, the exception kept -/
def wKeep (K : PySem.W.Frag) (c : Value) (i : Nat) (ts : Addr → Value → Option Addr → TS) (Wout : WX) (D : Ends) : WX := fun cls d σ H =>
  ∃ b, PySem.W.exmOne K cls c = some b ∧ (b = true → ∀ a oe vs, H a = none → Zc cls d oe → oe.data = .fields vs → ts a cls d (endsK a oe i D) (σ.set i (some (.ref a))) H) ∧ (b = false → Wout cls d σ H)
theorem ps_try_keep (hstk : X.stack = X.env :: X.outer) (hfrm : X.env.frame = some X.env.locals) (hex : X.ex = []) (hnd : X.N.Nodup) (hix : X.N[i]? = some n) (hkind : X.env.kindOf n = some .local) (hcls : Names X x c) (tk : Takes X Wout)
    (hbody : ∀ (W : WX) (pn : List (Addr × Obj)) (xe : Value → Shared → Prop), Takes (X.tr pn xe) W → PassesOwn (model X.prog X.w) X.A X.env xe → PSs (X.tr pn xe) body (tb W))
    (hsuite : ∀ (a : Addr) (oe : Obj) (cls : Value) (d : Option Addr) (pn : List (Addr × Obj)), Zc cls d oe → (∃ vs, oe.data = .fields vs) → PSs (X.suite a ((a, oe) :: pn)) (b₀ :: suite) (ts a cls d)) :
    PS X (.Try body [.ExceptHandler (some (.Name x np)) (some n) (b₀ :: suite) pos'] [] [] pos) (fun D σ H => tb (wKeep X.K c i ts Wout D) D σ H) := by
  refine ⟨fun pins s σ H D I hread => ?_⟩
  have okX := I.ok
  have fr0 : X.A.frames = some (X.env :: X.outer) := by rw [okX.frames, hstk]
  refine wpAny_Try_except ?_
  refine wpAny_mono ((hbody (wKeep X.K c i ts Wout D) (X.pn ++ pins) (fun er s₁ => wpAny (model X.prog X.w) X.A (noteFrame er X.env) (fun _ s₂ => wpAny (model X.prog X.w) X.A (setFlight er none) (fun _ s₃ =>
    wpAny (model X.prog X.w) X.A (handleBy er X.env [.ExceptHandler (some (.Name x np)) (some n) (b₀ :: suite) pos']) (SP X pins D) X.xe s₃) X.xe s₂) X.xe s₁) (fun u s' air => ?_) PassesOwn.looking).run [] s σ H D (I.toTry _) hread) (fun fl s1 hsp => ?_) (fun _ _ z => z)
  · obtain ⟨a, B, sI, pins', σ', H', cls, d, rfl, J', inB, up, sky, na, eos, gs, b, hb, yes, no⟩ := air
    have J : L2.Inv X pins σ' H' sI := J'.ofTry okX
    have sky1 : Sky B (X.env :: X.outer) a (Zc cls d) X.env.locals s'.heap := by rw [← hstk]; exact sky
    show wpAny (model X.prog X.w) X.A (noteFrame (.ref a) X.env) _ _ _
    refine Sky.land Zc.steady fr0 hfrm sky1 fun h3 f3 up3 => ?_
    have J3 : L2.Inv X pins σ' H' { s' with heap := h3 } := J.landed inB f3.1 (up.trans up3) eos gs
    obtain ⟨oe3, vs3, at3, z3, dat3⟩ := f3.there
    have outside : a ∉ frs (X.env :: X.outer) := fun hm => by
      obtain ⟨_, o', e', hnf⟩ := f3.2.2.1.mem hm
      rw [at3] at e'
      cases e'
      exact hnf _ dat3
    have nL : a ≠ X.env.locals := fun z => outside (List.mem_filterMap.mpr ⟨X.env, List.mem_cons_self, by rw [hfrm, z]⟩)
    have nF : a ∉ X.fs := fun hm => by
      obtain ⟨en, hen, q⟩ := List.mem_filterMap.mp hm
      exact outside (List.mem_filterMap.mpr ⟨en, List.mem_cons_of_mem _ hen, q⟩)
    have notI : sI.heap.get? a = none := by
      cases q : sI.heap.get? a with
      | none => rfl
      | some o =>
        have q2 := inB a o q (by rw [hstk]; exact outside)
        rw [f3.2.1] at q2
        cases q2
    have not0 : X.s_0.heap.get? a = none := by
      cases q : X.s_0.heap.get? a with
      | none => rfl
      | some o =>
        obtain ⟨o', q2⟩ := J.base.there a o q (by rw [hex]; simp)
        rw [notI] at q2
        cases q2
    have notP : ∀ p ∈ X.pn ++ pins, p.1 ≠ a := fun p hp z => by
      have q := (J.pin p hp).1
      rw [z, notI] at q
      cases q
    have S3 := J3.suite at3 dat3 na nL nF
    refine wpAny_handleBy_cons (codeAny_handlers_test ?_) (by intro q; cases q)
    have look1 : PySem.W.Looks (model X.prog X.w) h3 (typeOf (.ref a)) cls := fun A Q E s k q => wpAny_typeOf_ref (k _ _ at3) (by rw [z3.1]; exact q)
    have look2 := PySem.W.exm_one (M := model X.prog X.w) (J3.kIn) look1 hb
    have ask : ∀ {Q : Value → Shared → Prop} {E : Value → Shared → Prop}, Q c { s' with heap := h3 } → wpAny (model X.prog X.w) (X.A.mark (some (.ref a))) (eval (.Name x np) X.env) Q E { s' with heap := h3 } := fun {Q E} q => by
      obtain ⟨g1, g2, g3 | ⟨g3, g4, g5⟩⟩ := hcls
      · exact ld_glob (X := X.suite a ((a, oe3) :: (X.pn ++ pins))) S3 g1 g3 q g2
      · exact ld_blt (X := X.suite a ((a, oe3) :: (X.pn ++ pins))) S3 g1 g3 g4 q g5 g2
    refine ask (look2.here ?_)
    cases b with
    | true =>
      refine codeAny_handlers_suite_as ?_
      refine HandSPX.lands_againZ f3 fun h4 f4 up4 => ?_
      have J4 : L2.Inv X pins σ' H' { s' with heap := h4 } := J.landed inB f4.1 ((up.trans up3).trans up4) eos gs
      obtain ⟨oe4, vs4, at4, z4, dat4⟩ := f4.there
      have S4 := J4.suite at4 dat4 na nL nF
      refine store_ok (X := X.suite a ((a, oe4) :: (X.pn ++ pins))) (v := .ref a) S4 hnd hix (.inl hkind) rfl (fun s5 S5 => ?_) (.inr hkind)
      refine wpAny_mono ((hsuite a oe4 cls d (X.pn ++ pins) z4 ⟨_, dat4⟩).run [] s5 _ H' _ S5 (yes rfl a oe4 vs4 na z4 dat4)) (fun fl s6 hsp => ?_) (fun _ _ z => False.elim z)
      have fin : ∀ {σ6 : L2.St} {H6 : Hp} {Q : Shared → Prop}, L2.Inv (X.suite a ((a, oe4) :: (X.pn ++ pins))) [] σ6 H6 s6 → (∀ s7, L2.Inv X pins (σ6.set i none) (upd H6 a (exk a oe4)) s7 → Q s7) →
          wpAny (model X.prog X.w) X.A (do bindName X.env n .none; unbindBehindTheSuite X.env n pos') (fun _ s7 => Q s7) X.xe s6 := fun {σ6 H6 Q} S6 hq => by
        obtain ⟨p1, p2, _⟩ := S6.pin (a, oe4) (List.mem_append_left _ List.mem_cons_self)
        exact gone_ok (track (S6.unsuite okX) p1 dat4 p2 not0 nL notP) hnd hix hkind hq
      cases fl with
      | next =>
        obtain ⟨σ6, H6, S6, q6⟩ := hsp
        exact fin S6 fun s7 J7 => ⟨_, _, J7, q6⟩
      | brk =>
        obtain ⟨σ6, H6, S6, q6⟩ := hsp
        exact fin S6 fun s7 J7 => ⟨_, _, J7, q6⟩
      | cont =>
        obtain ⟨σ6, H6, S6, q6⟩ := hsp
        exact fin S6 fun s7 J7 => ⟨_, _, J7, q6⟩
      | ret u =>
        obtain ⟨v6, σ6, H6, S6, r6, q6⟩ := hsp
        exact fin S6 fun s7 J7 => ⟨_, _, _, J7, r6, q6⟩
    | false =>
      show wpAny _ X.A (handleBy (.ref a) X.env []) _ _ _
      refine wpAny_handleBy_nil ?_
      obtain ⟨k1, k2, k3, oe, vs, T, oT, ts', he, hz, hdt, h1, hrr⟩ := id f3
      unfold PySem.passOn
      refine wpAny_bind (wpAny_field he hdt h1 ?_)
      rw [if_neg (show ¬ ((Value.ref T == Value.none) = true) from by simp)]
      have away : wpAny (model X.prog X.w) X.A (setFlight (.ref a) X.env.frame) (fun _ s4 => wpAny (model X.prog X.w) X.A (throw (.ref a) : Sem Flow) (SP X pins D) X.xe s4) X.xe { s' with heap := h3 } := by
        rw [hfrm]
        refine HandSPX.setFlight_upZ f3 fun h4 hh4 up4 => wpAny_throw (tk _ _ ?_)
        exact ⟨a, B, sI, pins, σ', H', cls, d, rfl, J, inB, (up.trans up3).trans up4, .inr (.inr (by rw [hstk]; exact hh4)), na, eos, gs, no rfl⟩
      first
        | exact wpAny_bind (wpAny_pure (wpAny_bind away))
        | exact wpAny_bind away
  · cases fl with
    | next =>
      obtain ⟨σ', H', J', q⟩ := hsp
      exact wpAny_execs_nil ⟨σ', H', J'.ofTry okX, q⟩
    | brk =>
      obtain ⟨σ', H', J', q⟩ := hsp
      exact ⟨σ', H', J'.ofTry okX, q⟩
    | cont =>
      obtain ⟨σ', H', J', q⟩ := hsp
      exact ⟨σ', H', J'.ofTry okX, q⟩
    | ret u =>
      obtain ⟨v, σ', H', J', r, q⟩ := hsp
      exact ⟨v, σ', H', J'.ofTry okX, r, q⟩
end
/-! ### a kept exception: its class C, its dict d with the fields fs -/
structure Kept (H : Hp) (a C : Addr) (d : Option Addr) (fs : List (Str × V)) : Prop where
  ex : ∃ oe vs, H a = some (exk a oe) ∧ Zc (.ref C) d oe ∧ oe.data = .fields vs
  dc : ∀ dd, d = some dd → H dd = some (.xd fs)
theorem Kept.mono {H H' : Hp} {a C : Addr} {d : Option Addr} {fs : List (Str × V)} (k : Kept H a C d fs) (s : Same H H') : Kept H' a C d fs := by
  obtain ⟨oe, vs, h1, h2, h3⟩ := k.ex
  exact ⟨⟨oe, vs, s _ _ h1, h2, h3⟩, fun dd e => s _ _ (k.dc dd e)⟩
/-- what the clause's end tracks is a kept exception -/
theorem Kept.of {H : Hp} {a C : Addr} {d : Option Addr} {fs : List (Str × V)} {oe : Obj} {vs : Array Value} (na : H a = none) (z : Zc (.ref C) d oe) (dt : oe.data = .fields vs) (hd : ∀ dd, d = some dd → H dd = some (.xd fs)) : Kept (upd H a (exk a oe)) a C d fs :=
  ⟨⟨oe, vs, upd_same, z, dt⟩, fun dd e => by rw [upd_ne (ne_of_none (hd dd e) na)]; exact hd dd e⟩
theorem Kept.inst {X : Cx} {pins : List (Addr × Obj)} {σ : L2.St} {H : Hp} {s : Shared} {a C : Addr} {d : Option Addr} {fs : List (Str × V)} (I : L2.Inv X pins σ H s) (k : Kept H a C d fs) :
    ∃ oe od, PySem.W.InstAt s.heap a oe C od ∧ ∀ dd, d = some dd → ∃ (o : Obj) (mA : Str → Option Value), od = some o ∧ (∀ name, PySem.W.lookIn name o = some (mA name)) ∧ ∀ f, RelO (fs.lookup f) (mA f) := by
  obtain ⟨oe, vs, h1, z, dt⟩ := k.ex
  have ha := exk_at I.hok h1
  have nc : PySem.W.notCls oe = true := by unfold PySem.W.notCls; rw [dt] <;> rfl
  cases d with
  | none => exact ⟨oe, none, ⟨ha, z.1, nc, by rw [z.2] <;> trivial⟩, fun dd e => nomatch e⟩
  | some dd =>
    have hx : ObjOk X.prog X.w H s.heap dd (.xd fs) := I.hok dd _ (k.dc dd rfl)
    obtain ⟨mA, hns, hr⟩ := hx
    obtain ⟨o, ho, hl⟩ := lookIn_ns hns
    exact ⟨oe, some o, ⟨ha, z.1, nc, by rw [z.2] <;> exact ho⟩, fun _ _ => ⟨o, mA, rfl, hl, hr⟩⟩
/-- isinstance(kept, c); isinstance(kept, (c1, c2, ..)) -/
def rIsX (K : PySem.W.Frag) : List V → Hp → VK → Prop := fun xs H Q => ∃ (a C : Addr) (d : Option Addr) (fs : List (Str × V)) (c : V) (u : Value) (b : Bool), xs = [.ref a, c] ∧ Kept H a C d fs ∧ ExcC K C ∧ ClsV c u ∧ PySem.W.kitOne K (.ref C) u = some b ∧ Q (.bl b) H
def rIsXT (K : PySem.W.Frag) : List V → Hp → VK → Prop := fun xs H Q => ∃ (a C tp : Addr) (d : Option Addr) (fs : List (Str × V)) (cs : List V) (us : List Value) (b : Bool), xs = [.ref a, .ref tp] ∧ Kept H a C d fs ∧ ExcC K C ∧ H tp = some (.tup cs) ∧ Paired ClsV cs us ∧ PySem.W.kitAny K (.ref C) us = some b ∧ Q (.bl b) H
theorem kitx_kept {K : PySem.W.Frag} {a C : Addr} {oe : Obj} {od : Option Obj} (E : ExcC K C) : PySem.W.KitX K (.ref a) (.ref C) (fun h => PySem.W.InstAt h a oe C od) :=
  PySem.W.kitx_exc (by obtain ⟨cd, hc, _⟩ := PySem.W.any_some E.hd; rw [hc]; rfl) E.hg E.hk E.hs E.ha E.hn E.ht E.hm
theorem call_isX {X : Cx} (K : PySem.W.Frag) (hK : X.K = K := by rfl) : CallR X (.builtin "isinstance") (rIsX K) := by
  subst hK
  intro pins s σ H xs us Q I r h
  obtain ⟨a, C, d, fs, c, u, b, rfl, kp, E, cv, kt, q⟩ := h
  obtain ⟨u1, u2, rfl, r1, r2⟩ := vals2 r
  cases (show u1 = Value.ref a from r1)
  have e2 := cv.eq r2
  subst e2
  obtain ⟨oe, od, J, _⟩ := kp.inst I
  exact PySem.W.kia_one (kitx_kept E) I.kIn J kt (fun z => nomatch z) fun tk => ⟨.bl b, H, I.tok tk, rfl, q⟩
theorem call_isXT {X : Cx} (K : PySem.W.Frag) (hK : X.K = K := by rfl) : CallR X (.builtin "isinstance") (rIsXT K) := by
  subst hK
  intro pins s σ H xs us Q I r h
  obtain ⟨a, C, tp, d, fs, cs, ws, b, rfl, kp, E, hT, cv, kt, q⟩ := h
  obtain ⟨u1, u2, rfl, r1, r2⟩ := vals2 r
  cases (show u1 = Value.ref a from r1)
  cases (show u2 = Value.ref tp from r2)
  obtain ⟨oe, od, J, _⟩ := kp.inst I
  obtain ⟨_, its, rv, o, h1, h2, n, h3⟩ := (show ObjOk X.prog X.w H s.heap tp (.tup cs) from I.hok tp _ hT)
  have e3 := ClsV.all cv rv
  subst e3
  obtain ⟨oc, odd, dt, sl⟩ := o
  simp only at h2 h3
  subst h2 h3
  exact PySem.W.kia_tup (kitx_kept E) I.kIn J h1 kt (fun z => nomatch z) fun tk => ⟨.bl b, H, I.tok tk, rfl, q⟩
/-- kept.f -/
def tFx (K : PySem.W.Frag) (f : Str) (te : TE) : TE := fun σ H Q => te σ H fun x H1 => ∃ (a C dd : Addr) (fs : List (Str × V)) (v : V), x = .ref a ∧ Kept H1 a C (some dd) fs ∧ ExcC K C ∧ PySem.W.findIn K (.ref C) f = some none ∧ fs.lookup f = some v ∧ Q v H1
theorem pe_fx {X : Cx} (K : PySem.W.Frag) {e : Expr} {te : TE} {pos : Pos} {n : Str} (he : PE X e te) (hb : attributeBase e n X.env (eval e X.env) = eval e X.env := by rfl) (hK : X.K = K := by rfl) : PE X (.Attribute e n pos) (tFx K n te) := by
  subst hK
  refine ⟨fun pins s σ H Q I h => ?_⟩
  refine attr_of hb (L2.thn (he.run pins s σ H _ I h) fun u s1 hh => ?_)
  obtain ⟨x, H1, I1, rx, a, C, dd, fs, v, rfl, kp, E, hno, l, q⟩ := hh
  obtain rfl : u = Value.ref a := rx
  obtain ⟨oe, od, J, more⟩ := kp.inst I1
  obtain ⟨o, mA, rfl, hl, hr⟩ := more dd rfl
  obtain ⟨w, hu, ru⟩ := RelO.some_of (v := v) (o := mA n) (by rw [← l]; exact hr n)
  exact HandSPX.exc_get I1.kIn J E.hg E.hk E.hs (PySem.W.findObj_own E.hd hno rfl (by rw [hl, hu])) (handed_of ru) ⟨v, H1, I1.tok _, ru, q⟩
/-- B.__init__(self, ..), B an own class over ValueError without its own __init__ -/
structure BaseC (K : PySem.W.Frag) (mg : Str → Option Value) (x : Str) (B : Addr) : Prop where
  m : mg x = some (.ref B)
  sp : PySem.W.specialIn K (.ref B) "__getattribute__" = some (some (.builtin "type.__getattribute__"))
  rd : PySem.W.readsIn K B (.type "type") = true
  ini : PySem.W.findCls K (.ref B) (.type "type") "__init__" = some (.val (.builtin "ValueError.__init__"))
theorem pe_binit {X : Cx} (K : PySem.W.Frag) {x : Str} {B : Addr} {e : Expr} {es : List Expr} {ta : TA} {p1 p2 pos : Pos} {pl : Sem Bool} (T : BaseC X.K X.mg x B) (ha : PA X (e :: es) ta) (hg : Gl X x := by rfl)
    (hc : eval (.Call (.Attribute (.Name x p1) "__init__" p2) (e :: es) [] pos) X.env = (do
      let who ← eval (.Name x p1) X.env
      standAt p2.atName
      let (g, ahead) ← holding [who] (getMethod who "__init__" pl)
      callWith pos g ahead (backTo pos (starEach (e :: es) X.env)) (backToKw pos (keywordEach [] X.env))) := by rfl)
    (hs : starEach (e :: es) X.env = (false, eval e X.env) :: starEach es X.env := by rfl) (hp : (backTo pos (starEach es X.env)).any (·.1) = false := by rfl) (hdb : (x == ("__debug__" : Str)) = false := by decide) (hK : X.K = K := by rfl) :
    PE X (.Call (.Attribute (.Name x p1) "__init__" p2) (e :: es) [] pos) (tVeI K ta) := by
  subst hK
  refine ⟨fun pins s σ H Q I h => ?_⟩
  refine PySem.W.methodCall_KW (ld_glob I hg T.m ?_ hdb) hc
  obtain ⟨m, fr⟩ := I.fr
  refine PySem.W.method_cls I.kIn T.sp ?_
  refine PySem.W.cls_value I.kIn T.rd T.ini (by decide +kernel) ?_
  show wpAny _ _ (callWith pos (Value.builtin "ValueError.__init__") [] (backTo pos (starEach (e :: es) X.env)) []) _ _ _
  refine PyProof.Rows.callWith_method1 (L2.thn (ha.run pos pins _ σ H _ (I.tok _) h) fun us s1 hh => ?_) hs hp
  obtain ⟨vs, H1, I1, r1, a, C, ws, ev, hl, T', ea, q⟩ := hh
  subst ev
  cases r1 with
  | @cons _ u0 _ ur ra rw' =>
    obtain rfl : u0 = Value.ref a := ra
    exact oinit_ok T' I1 ea (by rw [← Paired.length rw', sizeLine_eq]; omega) fun s' J => ⟨.non, H1, J, rfl, q⟩
end Np

set_option Elab.async false
set_option linter.all false
set_option maxRecDepth 100000
set_option maxHeartbeats 4000000
namespace Np
open PySem PySem.Spec PyProof.Rows L2
/-! ### promises of defs that are called where nothing is being shown (no repr runs around) -/
structure FnG (P : Program) (w : World) (K : PySem.W.Frag) (mg : Str → Option Value) (base : Heap) (CX : CXT) (k : Nat) (f : Addr) (fd : FuncData) (ps : List Str) (sp : Sp) : Prop where
  len : ∀ vs H Q E, sp vs H Q E → vs.length = ps.length
  run : ∀ (A : Around) (outer : List Env) (s : Shared) (H : Hp) (args : Args) (us : List Value) (vs : List V) (Q : VK) (E : XK), A.guards = some [] → Room k A → Env0 P w K mg base A outer s H → BindsTo s fd args (ps.zip us) → Vals vs us → sp vs H Q E →
    codeAny (model P w) A (.call (.ref f) args) (CR CX outer P w H s Q E) s
section
variable {P : Program} {w : World} {K : PySem.W.Frag} {mg : Str → Option Value} {base : Heap} {CX : CXT} {k : Nat} {f : Addr} {fd : FuncData} {ps : List Str} {sp : Sp}
theorem FnG.of (F : FnOk P w K mg base CX k f fd ps sp) : FnG P w K mg base CX k f fd ps sp := ⟨F.len, fun A outer s H args us vs Q E _ hr => F.run A outer s H args us vs Q E hr⟩
end
theorem fn_ofG {CX : CXT} {P : Program} {w : World} {K : PySem.W.Frag} {mg : Str → Option Value} {base : Heap} {k : Nat} {f : Addr} {name qual : Str} {params : Arguments} {body : List Stmt} {scope : Scope} {dV kV doc pm cdv ct oc : Value} {an od : Option Addr}
    {osl : Array (Option Value)} {N ps : List Str} {sp : Sp} (lk : K.lookup f = some ⟨oc, od, .func (PySem.W.fnOf name qual params body scope dV kV doc pm an cdv ct), osl⟩) (hcd : PySem.W.codeIn K cdv qual = true) (S : FnScope N ps scope)
    (len : ∀ vs H Q E, sp vs H Q E → vs.length = ps.length)
    (hbody : ∀ (A : Around) (outer : List Env) (s : Shared) (H : Hp) (vs : List V) (Q : VK) (E : XK), A.guards = some [] → Room k (A.deeper (envOfC qual scope s.heap.objs.size f cdv)) → sp vs H Q E →
      ∃ t, PSs (cxOf CX P w K mg base N qual scope f cdv A outer s H E) body t ∧ t { nx := fun _ H' => Q .non H', rt := Q } (start N vs) H) :
    FnG P w K mg base CX (k + 1) f (PySem.W.fnOf name qual params body scope dV kV doc pm an cdv ct) ps sp := by
  refine ⟨len, fun A outer s H args us vs Q E hgd room e0 hbi rel hsp => ?_⟩
  have hlen := len _ _ _ _ hsp
  have inK : K.In s.heap := e0.mod.kin.keeps fun b o q => (e0.bs b o q).1
  have limit : s.heap.NoLimit := e0.mod.nolimit.keeps fun b o q => (e0.bs b o q).1
  have kinds : ∀ y ∈ ps.zip us, scope.names.lookup y.1 = some .local ∨ (scope.names.lookup y.1 = some .cell ∧ ((cellsFrom (s.heap.objs.size + 1) scope.names []).lookup y.1).isSome = true) := fun ⟨nm, v⟩ hy => by
    rcases S.par nm (List.of_mem_zip hy).1 with z | z
    · exact .inl z
    · exact .inr ⟨z, PySem.W.cellsFrom_some _ _ _ (.inl z)⟩
  refine codeAny_call_function room.depth (inK _ _ lk) rfl S.co S.gen rfl (PySem.W.codeRec_of inK hcd) (hbi _ _ _ _ ?_)
  refine wpAny_newFunctionEnv_cells S.kind kinds fun env henv s1 x => ?_
  subst henv
  refine ⟨limit.keeps x.toInCall.keep, codeAny_func ?_⟩
  obtain ⟨t, ht, hq⟩ := hbody A outer s H vs Q E hgd (room.deeper _) hsp
  have I0 : L2.Inv (cxOf CX P w K mg base N qual scope f cdv A outer s H E) [] (start N vs) H s1 := inv_start S room.hd e0 hlen rel x
  refine wpAny_mono (ht.run [] s1 (start N vs) H _ I0 hq) (fun fl s' hs => ?_) fun _ _ z => z
  have done : ∀ {σ' : L2.St} {H' : Hp} {v : V} {u : Value}, L2.Inv (cxOf CX P w K mg base N qual scope f cdv A outer s H E) [] σ' H' s' → RelV v u → Q v H' → CE outer P w H s Q u s' :=
    fun {σ' H' v u} J rv q => ⟨v, H', J.os, J.bare, J.base, J.hok, rv, q⟩
  cases fl with
  | ret u =>
    obtain ⟨v, σ', H', J, rv, q⟩ := hs
    exact done J rv q
  | next =>
    obtain ⟨σ', H', J, q⟩ := hs
    exact done (v := V.non) (u := Value.none) J rfl q
  | brk =>
    obtain ⟨_, _, _, q⟩ := hs
    exact q.elim
  | cont =>
    obtain ⟨_, _, _, q⟩ := hs
    exact q.elim
section
variable {P : Program} {w : World} {K : PySem.W.Frag} {mg : Str → Option Value} {base : Heap} {x qual : Str} {st : Stmt} {f : Addr} {fd : FuncData} {N ps : List Str} {k : Nat} {sp : Sp}
theorem Fun.okG (F : Fun K x qual st f fd) (S : FnScope N ps (defScope st)) (len : ∀ vs H Q E, sp vs H Q E → vs.length = ps.length)
    (hbody : ∀ (cdv : Value) (A : Around) (outer : List Env) (s : Shared) (H : Hp) (vs : List V) (Q : VK) (E : XK), (A.deeper (envOfC qual (defScope st) s.heap.objs.size f cdv)).guards = some [] → Room k (A.deeper (envOfC qual (defScope st) s.heap.objs.size f cdv)) → sp vs H Q E →
      ∃ t, PSs (cxOf CX0 P w K mg base N qual (defScope st) f cdv A outer s H E).nox (defBody st) t ∧ t { nx := fun _ H' => Q .non H', rt := Q } (start N vs) H) : FnG P w K mg base CX0 (k + 1) f fd ps sp := by
  obtain ⟨oc, od, kV, doc, pm, an, cdv, ct, osl, rfl, lk, hcd⟩ := F.ex
  refine fn_ofG lk hcd S len fun A outer s H vs Q E hgd hr hsp => ?_
  obtain ⟨t, h, q⟩ := hbody cdv A outer s H vs Q E hgd hr hsp
  exact ⟨t, h.nox, q⟩
theorem Fun.okGX (F : Fun K x qual st f fd) (S : FnScope N ps (defScope st)) (len : ∀ vs H Q E, sp vs H Q E → vs.length = ps.length)
    (hbody : ∀ (cdv : Value) (A : Around) (outer : List Env) (s : Shared) (H : Hp) (vs : List V) (Q : VK) (E : XK), (A.deeper (envOfC qual (defScope st) s.heap.objs.size f cdv)).guards = some [] → Room k (A.deeper (envOfC qual (defScope st) s.heap.objs.size f cdv)) → sp vs H Q E →
      ∃ t, PSs (cxOf (L2.CX P w) P w K mg base N qual (defScope st) f cdv A outer s H E) (defBody st) t ∧ t { nx := fun _ H' => Q .non H', rt := Q } (start N vs) H) : FnG P w K mg base (L2.CX P w) (k + 1) f fd ps sp := by
  obtain ⟨oc, od, kV, doc, pm, an, cdv, ct, osl, rfl, lk, hcd⟩ := F.ex
  exact fn_ofG lk hcd S len fun A outer s H vs Q E hgd hr hsp => hbody cdv A outer s H vs Q E hgd hr hsp
theorem FunD.okG {CX : CXT} {params : Arguments} {body : List Stmt} {scope : Scope} {dvs : List V} {kws : List (Str × V)} (F : FunD K x qual params body scope dvs kws f fd) (S : FnScope N ps scope) (len : ∀ vs H Q E, sp vs H Q E → vs.length = ps.length)
    (hbody : ∀ (cdv : Value) (A : Around) (outer : List Env) (s : Shared) (H : Hp) (vs : List V) (Q : VK) (E : XK), (A.deeper (envOfC qual scope s.heap.objs.size f cdv)).guards = some [] → Room k (A.deeper (envOfC qual scope s.heap.objs.size f cdv)) → sp vs H Q E →
      ∃ t, PSs (cxOf CX P w K mg base N qual scope f cdv A outer s H E) body t ∧ t { nx := fun _ H' => Q .non H', rt := Q } (start N vs) H) : FnG P w K mg base CX (k + 1) f fd ps sp := by
  obtain ⟨oc, od, dV, kV, doc, pm, an, cdv, ct, osl, rfl, lk, hcd, _, _⟩ := F.ex
  exact fn_ofG lk hcd S len fun A outer s H vs Q E hgd hr hsp => hbody cdv A outer s H vs Q E hgd hr hsp
end
/-- the end: the law's promise at the heap behind the top -/
theorem law_callG {P : Program} {w : World} {K : PySem.W.Frag} {mg mb : Str → Option Value} {CX : CXT} {k : Nat} {fa a : Addr} {fd : FuncData} {x : Str} {sp : Sp} {s₁ : Shared} {vs : List Value} {ns : List Int}
    (inK : K.In s₁.heap) (hmg : s₁.heap.Ns mainGlobals mg) (hmb : s₁.heap.Ns builtinsNs mb) (hbb : ∀ x : Str, x ≠ "__name__" → mb x = bootBuiltins x) (hlim : s₁.heap.NoLimit) (hgens : s₁.gens = #[])
    (hsc : s₁.heap.get? a = some { cls := .type "list", data := .seq vs.toArray }) (hints : IntsAre vs ns) (hlen : ns.length ≤ sizeLine) (hr : Room k callerA)
    (F : ∀ base : Heap, K.In base → base.Ns mainGlobals mg → FnG P w K mg base CX k fa fd [x] sp) (hbind : ∀ (s : Shared) (u : Value), BindsTo s fd ⟨[u], []⟩ [(x, u)])
    (hsp : ∀ H : Hp, Only H → SqL K H a (ns.map V.int) → sp [.ref a] H (fun v _ => v = .bl true) fun _ _ _ => False)
    (hCX : ∀ H e s', CX [] H s₁ (fun _ _ _ => False) e s' → False) :
    codeAny (model P w) callerA (.call (.ref fa) ⟨[.ref a], []⟩) (fun r s' => r = .ok (.ret (.bool true)) ∧ OldK s₁.heap s'.heap ∧ s'.os = s₁.os ∧ AllBare s'.gens) s₁ := by
  have rel := vals_ints hints
  have lv := hints.length
  have core : ∀ H : Hp, Only H → SqL K H a (ns.map V.int) → HOk P w H s₁.heap → (∀ b, H b ≠ none → b = a) → (H a ≠ none → K.lookup a = none) →
      codeAny (model P w) callerA (.call (.ref fa) ⟨[.ref a], []⟩) (fun r s' => r = .ok (.ret (.bool true)) ∧ OldK s₁.heap s'.heap ∧ s'.os = s₁.os ∧ AllBare s'.gens) s₁ := by
    intro H only sq hok onlyA notK
    have ground : ∀ {b : Addr} {o : Obj}, s₁.heap.get? b = some o → H b = none → (hidT s₁.heap H).get? b = some o := fun e n => hidT_get e n
    have noDict : ∀ {b : Addr} {o : Obj} {es : Array DictEntry} {ep : Nat}, s₁.heap.get? b = some o → o.data = .dict es ep → H b = none := fun {b o es ep} e dd => by
      cases q : H b with
      | none => rfl
      | some u =>
        have eb : b = a := onlyA b (by rw [q]; simp)
        subst eb
        rw [hsc] at e
        cases e
        exact nomatch (show Data.seq vs.toArray _ = Data.dict es ep from dd)
    have spaces : ∀ {b : Addr} {m : Str → Option Value}, s₁.heap.Ns b m → (hidT s₁.heap H).Ns b m := fun {b m} ⟨o, es, ep, e, dd, r⟩ => ⟨o, es, ep, ground e (noDict e dd), dd, r⟩
    have kb : K.In (hidT s₁.heap H) := fun b o e => ground (inK b o e) (by
      cases q : H b with
      | none => rfl
      | some u =>
        have eb : b = a := onlyA b (by rw [q]; simp)
        subst eb
        rw [notK (by rw [q]; simp)] at e
        cases e)
    have hMod : Mod K mg (hidT s₁.heap H) := ⟨kb, spaces hmg, ⟨mb, spaces hmb, hbb⟩, let ⟨mc, h1, h2⟩ := hlim; ⟨mc, spaces h1, h2⟩⟩
    have e0 : Env0 P w K mg (hidT s₁.heap H) callerA [] s₁ H := ⟨rfl, hMod, fun b o e => of_hidT e, Nat.le_of_eq (hidT_size _ _), trivial, fun b hb => absurd (show b ∈ ([] : List Addr) from hb) (by simp), hok, .of_eq hgens⟩
    refine codeAny_mono ((F _ kb (spaces hmg)).run callerA [] s₁ H ⟨[.ref a], []⟩ [.ref a] [.ref a] _ _ rfl hr e0 (hbind s₁ (.ref a)) (.cons rfl .nil) (hsp H only sq)) fun r s' hh => ?_
    cases r with
    | error e => exact (hCX H e s' hh).elim
    | ok fl =>
      cases fl with
      | next => exact False.elim hh
      | brk => exact False.elim hh
      | cont => exact False.elim hh
      | ret u =>
        obtain ⟨v, H', eos, bare, un, hok', rv, q⟩ := hh
        have ev : v = .bl true := q
        subst ev
        obtain rfl : u = Value.bool true := rv
        refine ⟨rfl, OldK.of_keep fun b o e => ?_, eos, bare⟩
        cases q2 : H b with
        | none => exact un.keep b o e q2 (by intro z; exact absurd (show b ∈ ([] : List Addr) from z) (by simp)) (by simp)
        | some u =>
          rcases only b with z | ⟨ob, xs, z⟩
          · rw [q2] at z
            cases z
          · obtain ⟨e1, _⟩ := hok b _ z
            obtain ⟨e2, _⟩ := hok' b _ (un.frzs b ob _ z)
            rw [e] at e1
            cases e1
            exact e2
  cases hk : K.lookup a with
  | some o =>
    have e := inK a o hk
    rw [hsc] at e
    cases e
    refine core (fun _ => none) (fun _ => .inl rfl) (.inr ⟨_, vs.toArray, _, hk, rfl, rfl, rfl, by rw [List.size_toArray, lv]; exact hlen, by simpa using rel⟩) (fun b u z => nomatch (show (none : Option HO) = some u from z)) (fun b z => absurd rfl z) fun z => absurd rfl z
  | none =>
    refine core (fun b => if b = a then some (.frz { cls := .type "list", data := .seq vs.toArray } (.lst (ns.map V.int))) else none) (fun b => ?_) (.inl (.inr ⟨{ cls := .type "list", data := .seq vs.toArray }, if_pos rfl⟩)) (fun b u z => ?_) (fun b z => ?_) fun _ => hk
    · by_cases hb : b = a
      · exact .inr ⟨_, _, if_pos hb⟩
      · exact .inl (if_neg hb)
    · by_cases hb : b = a
      · have z' := (if_pos hb).symm.trans z
        cases z'
        subst hb
        exact ⟨hsc, by rw [List.length_map]; exact hlen, vs, _, rel, hsc⟩
      · exact nomatch (if_neg hb).symm.trans z
    · by_cases hb : b = a
      · exact hb
      · exact absurd (if_neg hb) z
theorem walk_ofG {l : PySem.W.OpenLaw} {n k : Nat} {q : Program} {loose : List Str} {XP : (Str → Option Value) → Heap → Prop} {YP : World → Heap → Prop} {d : DefRec} {K : Params → PySem.W.Frag} {CX : World → CXT} {sp : World → Sp} {x : Str}
    (hn : l.most = some n) (hn2 : n ≤ sizeLine) (hdf : d.params.defaults = []) (hr : Room k callerA)
    (hY : ∀ (w : World) (h : Heap), YP w h → (K w.params).In h)
    (F : ∀ (w : World) (mg : Str → Option Value) (fa : Addr) (h : Heap), (K w.params).In h → h.Ns mainGlobals mg → mg d.name = some (.ref fa) →
      ∃ fd : FuncData, (∀ (s : Shared) (u : Value), BindsTo s fd ⟨[u], []⟩ [(x, u)]) ∧
        ∀ base : Heap, (K w.params).In base → base.Ns mainGlobals mg → FnG l.prog w (K w.params) mg base (CX w) k fa fd [x] (sp w))
    (hsp : ∀ (w : World) (H : Hp) (a : Addr) (ns : List Int), ns.length ≤ n → Only H → SqL (K w.params) H a (ns.map V.int) → sp w [.ref a] H (fun v _ => v = .bl true) fun _ _ _ => False)
    (hCX : ∀ (w : World) (H : Hp) (s : Shared) (e : Value) (s' : Shared), CX w [] H s (fun _ _ _ => False) e s' → False) :
    PySem.W.WalkO q loose XP YP l.row.toRowW d [] (fun f vs => PySem.call f vs) := by
  refine Att.attach_call hn hdf fun w s₀ s₁ mg mb fa o pm cd doc a vs ns G Y ho hd hcd hmg hobj hints hlen hg => ?_
  obtain ⟨fd, hb, hF⟩ := F w mg fa _ (hY w _ Y) G.T.g hmg
  exact law_callG (hY w _ Y) G.T.g G.T.b G.T.builtins G.T.nolimit hg hobj hints (Nat.le_trans hlen hn2) hr hF hb (fun H hO hS => hsp w H a ns hlen hO hS) fun H e s' => hCX w H s₁ e s'
/-! ### calls -/
structure OkG (P : Program) (w : World) (K : PySem.W.Frag) (mg : Str → Option Value) (base : Heap) (CX : CXT) (k : Nat) (x : Str) (ps : List Str) (sp : Sp) (f : Addr) (fd : FuncData) : Prop where
  ok : FnG P w K mg base CX k f fd ps sp
  m : mg x = some (.ref f)
  kp : PySem.W.keepIn K (.ref f) = true
section
variable {X : Cx} {CX : CXT} {k n : Nat} {f : Addr} {fd : FuncData} {ps ks : List Str} {sp : Sp} {E : L2.St → XK} {x : Str} {p pos : Pos} {e : Expr} {es : List Expr} {kws : List Keyword} {t tk : TA} {dvs : List V} {gV : List V → List V → List V}
theorem pass0At {X : Cx} (σ : L2.St) : PassesAt CX0 X σ E0 := fun _ _ _ _ _ _ h => h.elim
theorem passLAt {X : Cx} (σ : L2.St) : PassesAt (L2.CX X.prog X.w) X σ E0 := fun pins H s e s' I h => passL pins σ H s e s' I h
/-- a def that lets its callee's exceptions out -/
theorem passXAt {X : Cx} {E' : XK} (tk : Takes X (fun cls d _ H => E' cls d H)) (σ : L2.St) : PassesAt (L2.CX X.prog X.w) X σ E' := fun pins H s e s' I h => passes_call tk (fun _ _ _ _ z => z) pins σ H s e s' I h
theorem run_g {pins : List (Addr × Obj)} {σ : L2.St} {H : Hp} {s : Shared} {Q : VK} {args : Args} {us : List Value} {vs : List V} {E : XK} (F : FnG X.prog X.w X.K X.mg X.base CX k f fd ps sp) (hgd : X.A.guards = some []) (hr : Room k X.A) (hb : BindsTo s fd args (ps.zip us)) (hx : PassesAt CX X σ E)
    (I : L2.Inv X pins σ H s) (r : Vals vs us) (h : sp vs H Q E) : codeAny (model X.prog X.w) X.A (.call (.ref f) args) (fun r s' => match r with | .ok (.ret u) => EP X pins σ Q u s' | .ok _ => False | .error e => X.xe e s') s := by
  refine codeAny_mono (F.run X.A X.stack s H args us vs Q E hgd hr I.env0 hb r h) fun r s' hq => ?_
  cases r with
  | error e => exact hx pins H s e s' I hq
  | ok fl =>
    cases fl with
    | ret u => exact I.after hq
    | next => exact False.elim hq
    | brk => exact False.elim hq
    | cont => exact False.elim hq
def tCallE (sp : Sp) (dvs : List V) (E : L2.St → XK) (t : TA) : TE := fun σ H Q => t σ H fun vs H1 => sp (vs ++ dvs) H1 Q (E σ)
def tCallKE (n m : Nat) (sp : Sp) (gV : List V → List V → List V) (E : L2.St → XK) (t tk : TA) : TE := fun σ H Q => t σ H fun vs H1 => tk σ H1 fun zs H2 => vs.length = n ∧ zs.length = m ∧ sp (gV vs zs) H2 Q (E σ)
theorem run_gw {pins : List (Addr × Obj)} {σ : L2.St} {H : Hp} {s : Shared} {Q : VK} {us ds : List Value} {vs : List V} {E : XK} (F : FnG X.prog X.w X.K X.mg X.base CX k f fd ps sp) (hgd : X.A.guards = some []) (hr : Room k X.A) (hb : Binds X.K fd ps ds) (hd : Vals dvs ds) (hx : PassesAt CX X σ E)
    (I : L2.Inv X pins σ H s) (r : Vals vs us) (h : sp (vs ++ dvs) H Q E) : wpAny (model X.prog X.w) X.A (call (.ref f) us) (EP X pins σ Q) X.xe s := by
  have r2 : Vals (vs ++ dvs) (us ++ ds) := r.append hd
  have hl : (us ++ ds).length = ps.length := by rw [← r2.length]; exact F.len _ _ _ _ h
  refine wpAny_call (codeAny_mono (run_g F hgd hr (hb s us I.kIn hl) hx I r2 h) fun r s' hq => ?_)
  cases r with
  | error e => exact hq
  | ok fl => cases fl <;> exact hq
theorem pe_c (O : OkG X.prog X.w X.K X.mg X.base CX k x ps sp f fd) (b : ∃ ds, Vals dvs ds ∧ Binds X.K fd ps ds) (hgd : X.A.guards = some []) (hr : Room k X.A) (hx : ∀ σ, PassesAt CX X σ (E σ)) (ha : PA X (e :: es) t) (hg : Gl X x := by rfl)
    (hdb : (x == ("__debug__" : Str)) = false := by decide) (he : starEach (e :: es) X.env = (false, eval e X.env) :: starEach es X.env := by rfl) (hpl : (backTo pos (starEach es X.env)).any (·.1) = false := by rfl) :
    PE X (.Call (.Name x p) (e :: es) [] pos) (tCallE sp dvs E t) := by
  obtain ⟨ds, hv, hb⟩ := b
  refine ⟨fun pins s σ H Q I h => ?_⟩
  refine wpAny_Call_Name_kw (ld_glob I hg O.m ?_ hdb)
  refine PySem.W.callWith_K (h₀ := X.base) I.ok.mod.kin O.kp (L2.thn (ha.run pos pins s σ H _ I h) fun us s1 hh => ?_) he hpl
  obtain ⟨vs, H1, I1, r, q⟩ := hh
  exact ⟨I1.kIn, run_gw O.ok hgd hr hb hv (hx σ) I1 r q⟩
theorem pe_c0 (O : OkG X.prog X.w X.K X.mg X.base CX k x ps sp f fd) (b : ∃ ds, Vals dvs ds ∧ Binds X.K fd ps ds) (hgd : X.A.guards = some []) (hr : Room k X.A) (hx : ∀ σ, PassesAt CX X σ (E σ)) (hg : Gl X x := by rfl)
    (hdb : (x == ("__debug__" : Str)) = false := by decide) : PE X (.Call (.Name x p) [] [] pos) (tCallE sp dvs E tNil) := by
  obtain ⟨ds, hv, hb⟩ := b
  refine ⟨fun pins s σ H Q I h => ?_⟩
  refine wpAny_Call_Name_kw (ld_glob I hg O.m ?_ hdb)
  exact PySem.W.callWith_K0 I.kIn O.kp (run_gw (us := []) (vs := []) O.ok hgd hr hb hv (hx σ) I .nil h)
theorem run_gk {pins : List (Addr × Obj)} {σ : L2.St} {H : Hp} {s : Shared} {Q : VK} {us ws : List Value} {vs zs : List V} {E : XK} (F : FnG X.prog X.w X.K X.mg X.base CX k f fd ps sp) (hgd : X.A.guards = some []) (hr : Room k X.A) (b : KB X.K fd ps n ks gV) (hx : PassesAt CX X σ E)
    (I : L2.Inv X pins σ H s) (r : Vals vs us) (rz : Vals zs ws) (l1 : vs.length = n) (l2 : zs.length = ks.length) (h : sp (gV vs zs) H Q E) : wpAny (model X.prog X.w) X.A (call (.ref f) us (ks.zip ws)) (EP X pins σ Q) X.xe s := by
  obtain ⟨g, hb⟩ := b
  refine wpAny_call (codeAny_mono (run_g F hgd hr (hb.to s us ws I.kIn (r.length.symm.trans l1) (rz.length.symm.trans l2)) hx I (hb.rel r rz) h) fun r s' hq => ?_)
  cases r with
  | error e => exact hq
  | ok fl => cases fl <;> exact hq
theorem pe_ck (O : OkG X.prog X.w X.K X.mg X.base CX k x ps sp f fd) (b : KB X.K fd ps n ks gV) (hgd : X.A.guards = some []) (hr : Room k X.A) (hx : ∀ σ, PassesAt CX X σ (E σ))
    (ha : PA X (e :: es) t) (hkw : PK X kws tk) (hg : Gl X x := by rfl) (hall : (backToKw pos (keywordEach kws X.env)).all (·.1.isSome) = true := by rfl) (hks : (backToKw pos (keywordEach kws X.env)).filterMap (·.1) = ks := by rfl)
    (hdb : (x == ("__debug__" : Str)) = false := by decide) (he : starEach (e :: es) X.env = (false, eval e X.env) :: starEach es X.env := by rfl)
    (hpl : ((backTo pos (starEach (e :: es) X.env)).any (·.1) || (backToKw pos (keywordEach kws X.env)).any (·.1.isNone)) = false := by rfl) :
    PE X (.Call (.Name x p) (e :: es) kws pos) (tCallKE n ks.length sp gV E t tk) := by
  refine ⟨fun pins s σ H Q I h => ?_⟩
  refine wpAny_Call_Name_kw (ld_glob I hg O.m ?_ hdb)
  refine PySem.W.callWith_KW (h₀ := X.base) I.ok.mod.kin O.kp hall (L2.thn (ha.run pos pins s σ H _ I h) fun us s1 hh => ?_) hpl he
  obtain ⟨vs, H1, I1, r, q⟩ := hh
  refine L2.thn (hkw.run pos pins s1 σ H1 _ I1 q) fun ws s2 hh2 => ?_
  obtain ⟨zs, H2, I2, rz, l1, l2, q2⟩ := hh2
  refine ⟨I2.kIn, ?_⟩
  rw [hks]
  exact run_gk O.ok hgd hr b (hx σ) I2 r rz l1 l2 q2
theorem pe_ck0 (O : OkG X.prog X.w X.K X.mg X.base CX k x ps sp f fd) (b : KB X.K fd ps 0 ks gV) (hgd : X.A.guards = some []) (hr : Room k X.A) (hx : ∀ σ, PassesAt CX X σ (E σ))
    (hkw : PK X kws tk) (hg : Gl X x := by rfl) (hall : (backToKw pos (keywordEach kws X.env)).all (·.1.isSome) = true := by rfl) (hks : (backToKw pos (keywordEach kws X.env)).filterMap (·.1) = ks := by rfl)
    (hdb : (x == ("__debug__" : Str)) = false := by decide)
    (hpl : ((backTo pos (starEach [] X.env)).any (·.1) || (backToKw pos (keywordEach kws X.env)).any (·.1.isNone)) = false := by rfl) :
    PE X (.Call (.Name x p) [] kws pos) (tCallKE 0 ks.length sp gV E tNil tk) := by
  refine ⟨fun pins s σ H Q I h => ?_⟩
  refine wpAny_Call_Name_kw (ld_glob I hg O.m ?_ hdb)
  refine PySem.W.callWith_KW0 (h₀ := X.base) I.ok.mod.kin O.kp hall ?_ hpl
  refine L2.thn (hkw.run pos pins s σ H _ I h) fun ws s2 hh2 => ?_
  obtain ⟨zs, H2, I2, rz, l1, l2, q2⟩ := hh2
  refine ⟨I2.kIn, ?_⟩
  rw [hks]
  exact run_gk (us := []) (vs := []) O.ok hgd hr b (hx σ) I2 .nil rz l1 l2 q2
end
/-! ### repr of data -/
def rReprD (K : PySem.W.Frag) : List V → Hp → VK → Prop := fun xs H Q => ∃ (a : Addr) (d : PyData), xs = [.ref a] ∧ Dp K H (.ref a) d ∧ PyData.showable d = true ∧ SeqAt.shaped d = true ∧ d.shown.length ≤ sizeLine ∧ Q (.str d.shown) H
theorem call_reprD {X : Cx} (K : PySem.W.Frag) (hgd : X.A.guards = some []) (hu : X.A.units + 130 < cLine) (hK : X.K = K := by rfl) : CallR X (.builtin "repr") (rReprD K) := by
  subst hK
  intro pins s σ H xs us Q I r h
  obtain ⟨a, d, rfl, dp, sh, shp, hz, q⟩ := h
  obtain ⟨u, rfl, rx⟩ := vals1 r
  cases (show u = Value.ref a from rx)
  obtain ⟨as, rd⟩ := dp.reads I d _ _ rfl
  have hd := SeqAt.depth_of_shaped shp
  have hnd : d.hasDict = false := PyData.hasDict_of_canLay d (SeqAt.canLay_of_shaped shp)
  exact repr_of_reads' rd sh (fun z => by rw [hnd] at z; cases z) hgd (by omega) (fun _ _ z => z) (fun h' t tk keep => ⟨.str d.shown, H, I.kept keep, ⟨_, rfl⟩, q⟩) hz
end Np

set_option Elab.async false
set_option linter.all false
set_option maxRecDepth 100000
set_option maxHeartbeats 4000000
namespace Np
open PySem PySem.Spec PyProof.Rows L2
/-! ### text * number -/
theorem op_mulS {X : Cx} : OpR X (binaryOp .Mult) (fun x y H Q => ∃ (z : Str) (n : Int), x = .str z ∧ y = .int n ∧ MulOk z n ∧ Q (.str (Txt.mul z n)) H) := by
  intro pins s σ H x y v u Q I rx ry h
  obtain ⟨z, n, rfl, rfl, ok, q⟩ := h
  obtain ⟨t, rfl⟩ := rx
  obtain ⟨t', rfl⟩ := ry
  exact SB.mul ok fun t'' k => ⟨.str (Txt.mul z n), H, I.tok k, ⟨_, rfl⟩, q⟩
theorem mulOk_of {z : Str} {n : Int} (h1 : n < 2 ^ 30) (h0 : -(2 ^ 30) < n) (hz : z.length * n.toNat ≤ 16777216) : MulOk z n := by
  refine ⟨?_, fun hn _ => ?_, fun _ _ => ?_⟩
  · rw [decide_eq_false (by omega), decide_eq_false (by omega)] <;> rfl
  · obtain ⟨m, rfl⟩ := Int.eq_ofNat_of_zero_le (show 0 ≤ n by omega)
    have hm : 0 < (m : Int) := by omega
    intro hgt
    have hz' : z.length * m ≤ 16777216 := hz
    have h2 : ((2 ^ 63 - 1 : Int)) / (m : Int) < (z.length : Int) := hgt
    have h3 := (Int.ediv_lt_iff_lt_mul hm).mp h2
    have h4 : ((z.length * m : Nat) : Int) ≤ ((16777216 : Nat) : Int) := Int.ofNat_le.mpr hz'
    rw [Int.natCast_mul] at h4
    omega
  · have hz' : z.length * n.toNat ≤ sizeLine := by rw [sizeLine_eq]; exact hz
    exact decide_eq_false (Nat.not_lt.mpr hz')
theorem foldl_reps (a : Array Nat) : ∀ (k : Nat) (b : Array Nat), ((List.replicate k a).foldl (· ++ ·) b).toList = b.toList ++ (List.replicate k a.toList).flatten
  | 0, b => by simp
  | k + 1, b => by
    rw [List.replicate_succ, List.foldl_cons, foldl_reps a k (b ++ a), List.replicate_succ, List.flatten_cons, Array.toList_append, List.append_assoc]
theorem toList_mul (z : Str) (n : Nat) : (Txt.mul z n).cps.toList = (List.replicate n z.cps.toList).flatten := by
  unfold Txt.mul
  by_cases h1 : (n : Int) < 1
  · have e : n = 0 := by omega
    subst e
    rw [if_pos h1] <;> rfl
  · rw [if_neg h1]
    by_cases h2 : ((n : Int) == 1 || z.length == 0) = true
    · rw [if_pos h2]
      rcases Bool.or_eq_true_iff.mp h2 with q | q
      · have e : n = 1 := by have := eq_of_beq q; omega
        subst e
        simp
      · have e : z.length = 0 := eq_of_beq q
        have e2 : z.cps.toList = [] := List.eq_nil_of_length_eq_zero (by rw [Array.length_toList]; exact e)
        rw [e2]
        simp
    · rw [if_neg h2]
      show ((List.replicate (n : Int).toNat z.cps).foldl (· ++ ·) #[]).toList = _
      rw [foldl_reps, Int.toNat_natCast] <;> rfl
theorem Tx.mul {m : Nat} {z : Str} (h : Tx m z) (n : Nat) : Tx (n * m) (Txt.mul z n) := by
  refine ⟨?_, fun c hc => ?_⟩
  · show (Txt.mul z n).cps.size ≤ _
    rw [← Array.length_toList, toList_mul, List.length_flatten, List.map_replicate, List.sum_replicate_nat, Array.length_toList]
    exact Nat.mul_le_mul_left n h.len
  · rw [toList_mul] at hc
    obtain ⟨l, hl, hcl⟩ := List.mem_flatten.mp hc
    rw [List.eq_of_mem_replicate hl] at hcl
    exact h.ok c hcl
/-! ### own exceptions with an __init__: made and raised -/
def spInit (C : Addr) (names : List Str) : Sp := fun vs H Q _ => ∃ (a : Addr) (ws : List V), vs = .ref a :: ws ∧ ws.length = names.length ∧ H a = some (exo a C none) ∧
  ∀ d H', H d = none → d ≠ a → H' a = some (exo a C (some d)) → H' d = some (exd d (names.zip ws).reverse) → (∀ b, b ≠ a → b ≠ d → H' b = H b) → Q .non H'
theorem mk_tail {C : Addr} {names : List Str} {vs : List V} {H1 : Hp} {Q : XK} (hl : vs.length = names.length) (hs : vs.length ≤ 1000) (k : ∀ d, H1 d = none → Q (.ref C) (some d) (upd H1 d (.xd (names.zip vs).reverse))) :
    vs.length ≤ 1000 ∧ ∀ a, H1 a = none → spInit C names (.ref a :: (vs ++ [])) (upd H1 a (exo a C none))
      (fun v H2 => v = .non ∧ ∃ (d : Addr) (fs : List (Str × V)), H2 a = some (exo a C (some d)) ∧ H2 d = some (exd d fs) ∧ H1 d = none ∧ Q (.ref C) (some d) (upd (del H2 a) d (.xd fs))) (fun _ _ _ => False) := by
  refine ⟨hs, fun a na => ⟨a, vs, by rw [List.append_nil], hl, upd_same, fun d H' nd ne h1 h2 hb => ⟨rfl, d, _, h1, h2, ?_, ?_⟩⟩⟩
  · rw [upd_ne ne] at nd
    exact nd
  · have e : upd (del H' a) d (.xd (names.zip vs).reverse) = upd H1 d (.xd (names.zip vs).reverse) := by
      funext b
      by_cases hbd : b = d
      · rw [hbd, upd_same, upd_same]
      · rw [upd_ne hbd, upd_ne hbd]
        by_cases hba : b = a
        · rw [hba, del_same, na]
        · rw [del_ne hba, hb b hba hbd, upd_ne hba]
    rw [e]
    rw [upd_ne ne] at nd
    exact k d nd
def RaiseC (P : Program) (w : World) (K : PySem.W.Frag) (mg : Str → Option Value) (base : Heap) (C : Addr) (x : Str) (ps names : List Str) : Prop := ∃ (fI : Addr) (fd : FuncData), PySem.W.findIn K (.ref C) "__init__" = some (some (.ref fI)) ∧ PySem.W.typeIn K (.ref fI) = some (.type "function") ∧
  FnOk P w K mg base CX0 1 fI fd ps (spInit C names) ∧ Binds K fd ps []
def spL (K : PySem.W.Frag) : Sp := fun vs H Q _ => ∃ (a : Addr) (ns : List Int), vs = [.ref a] ∧ SqL K H a (ns.map V.int) ∧ ns.length ≤ 63 ∧ ∀ H', Q (.bl true) H'
theorem mt_indexK {X : Cx} (K : PySem.W.Frag) (h : X.K = K := by rfl) : MtR X "list.index" (rIndex K) := by subst h; exact mt_index
theorem un130 {k : Nat} {A : Around} (hr : Room k A) : A.units + 130 < cLine := by have := hr.un; omega
end Np

set_option Elab.async false
set_option linter.all false
set_option maxRecDepth 100000
set_option maxHeartbeats 4000000
namespace Nk05
open PySem L2 Np
def top (i : Nat) : Stmt := PySem.Challenge.pw_nightpaper_k05_marks_written_and_read.main.body.getD i (.Pass ⟨0, 0, 0, 0⟩)
abbrev s_NoTextD_initD : Stmt := inClass (top 2) 0
abbrev nm_NoTextD_initD : List Str := ["self", "row"]
abbrev ps_NoTextD_initD : List Str := ["self", "row"]
abbrev s_NoCopyD_initD : Stmt := inClass (top 3) 0
abbrev nm_NoCopyD_initD : List Str := ["self", "at"]
abbrev ps_NoCopyD_initD : List Str := ["self", "at"]
abbrev s_NoFitD_initD : Stmt := inClass (top 4) 0
abbrev nm_NoFitD_initD : List Str := ["self", "rows"]
abbrev ps_NoFitD_initD : List Str := ["self", "rows"]
abbrev s_NoRoomD_initD : Stmt := inClass (top 5) 0
abbrev nm_NoRoomD_initD : List Str := ["self", "lack"]
abbrev ps_NoRoomD_initD : List Str := ["self", "lack"]
abbrev s_UnlikeD_initD : Stmt := inClass (top 6) 0
abbrev nm_UnlikeD_initD : List Str := ["self", "one", "other"]
abbrev ps_UnlikeD_initD : List Str := ["self", "one", "other"]
abbrev s_mark_text : Stmt := top 12
abbrev nm_mark_text : List Str := ["mark", "found", "turn"]
abbrev ps_mark_text : List Str := ["mark"]
abbrev s_mark_by : Stmt := top 13
abbrev nm_mark_by : List Str := ["text", "sign"]
abbrev ps_mark_by : List Str := ["text"]
abbrev s__law_tape : Stmt := top 15
abbrev nm__law_tape : List Str := ["_law_script"]
abbrev ps__law_tape : List Str := ["_law_script"]
abbrev s__law_draw : Stmt := top 16
abbrev nm__law_draw : List Str := ["_law_tape_here", "_law_many", "_law_digit", "_law_turn", "_law_cell", "_law_primes", "_law_prime", "_law_mixed"]
abbrev ps__law_draw : List Str := ["_law_tape_here", "_law_many"]
abbrev s__law_signs : Stmt := top 17
abbrev nm__law_signs : List Str := ["_law_signs_here"]
abbrev ps__law_signs : List Str := []
abbrev s__law_written : Stmt := top 18
abbrev nm__law_written : List Str := ["_law_number", "_law_figures", "_law_power"]
abbrev ps__law_written : List Str := ["_law_number"]
abbrev s__law_bent : Stmt := top 19
abbrev nm__law_bent : List Str := ["_law_tape_here", "_law_written_here", "_law_signs_here", "_law_at", "_law_sign", "_law_some"]
abbrev ps__law_bent : List Str := ["_law_tape_here", "_law_written_here"]
abbrev s__law_due : Stmt := top 20
abbrev nm__law_due : List Str := ["_law_written_here", "_law_figures", "_law_sign", "_law_found"]
abbrev ps__law_due : List Str := ["_law_written_here"]
abbrev s__law_said : Stmt := top 21
abbrev nm__law_said : List Str := ["_law_written_here", "_law_told", "_law_kept", "e"]
abbrev ps__law_said : List Str := ["_law_written_here"]
abbrev s_law : Stmt := top 22
abbrev nm_law : List Str := ["_law_script", "_law_tape_here", "_law_turn", "_law_number", "_law_written_here", "_law_bent_here", "_law_one", "_law_due_here", "_law_thing"]
abbrev ps_law : List Str := ["_law_script"]
theorem sc_NoTextD_initD : FnScope nm_NoTextD_initD ps_NoTextD_initD (defScope s_NoTextD_initD) := ⟨rfl, rfl, rfl, by decide +kernel, rfl, by decide +kernel, by decide +kernel⟩
theorem sc_NoCopyD_initD : FnScope nm_NoCopyD_initD ps_NoCopyD_initD (defScope s_NoCopyD_initD) := ⟨rfl, rfl, rfl, by decide +kernel, rfl, by decide +kernel, by decide +kernel⟩
theorem sc_NoFitD_initD : FnScope nm_NoFitD_initD ps_NoFitD_initD (defScope s_NoFitD_initD) := ⟨rfl, rfl, rfl, by decide +kernel, rfl, by decide +kernel, by decide +kernel⟩
theorem sc_NoRoomD_initD : FnScope nm_NoRoomD_initD ps_NoRoomD_initD (defScope s_NoRoomD_initD) := ⟨rfl, rfl, rfl, by decide +kernel, rfl, by decide +kernel, by decide +kernel⟩
theorem sc_UnlikeD_initD : FnScope nm_UnlikeD_initD ps_UnlikeD_initD (defScope s_UnlikeD_initD) := ⟨rfl, rfl, rfl, by decide +kernel, rfl, by decide +kernel, by decide +kernel⟩
theorem sc_mark_text : FnScope nm_mark_text ps_mark_text (defScope s_mark_text) := ⟨rfl, rfl, rfl, by decide +kernel, rfl, by decide +kernel, by decide +kernel⟩
theorem sc_mark_by : FnScope nm_mark_by ps_mark_by (defScope s_mark_by) := ⟨rfl, rfl, rfl, by decide +kernel, rfl, by decide +kernel, by decide +kernel⟩
theorem sc__law_tape : FnScope nm__law_tape ps__law_tape (defScope s__law_tape) := ⟨rfl, rfl, rfl, by decide +kernel, rfl, by decide +kernel, by decide +kernel⟩
theorem sc__law_draw : FnScope nm__law_draw ps__law_draw (defScope s__law_draw) := ⟨rfl, rfl, rfl, by decide +kernel, rfl, by decide +kernel, by decide +kernel⟩
theorem sc__law_signs : FnScope nm__law_signs ps__law_signs (defScope s__law_signs) := ⟨rfl, rfl, rfl, by decide +kernel, rfl, by decide +kernel, by decide +kernel⟩
theorem sc__law_written : FnScope nm__law_written ps__law_written (defScope s__law_written) := ⟨rfl, rfl, rfl, by decide +kernel, rfl, by decide +kernel, by decide +kernel⟩
theorem sc__law_bent : FnScope nm__law_bent ps__law_bent (defScope s__law_bent) := ⟨rfl, rfl, rfl, by decide +kernel, rfl, by decide +kernel, by decide +kernel⟩
theorem sc__law_due : FnScope nm__law_due ps__law_due (defScope s__law_due) := ⟨rfl, rfl, rfl, by decide +kernel, rfl, by decide +kernel, by decide +kernel⟩
theorem sc__law_said : FnScope nm__law_said ps__law_said (defScope s__law_said) := ⟨rfl, rfl, rfl, by decide +kernel, rfl, by decide +kernel, by decide +kernel⟩
theorem sc_law : FnScope nm_law ps_law (defScope s_law) := ⟨rfl, rfl, rfl, by decide +kernel, rfl, by decide +kernel, by decide +kernel⟩
structure Ad where
  NightError : Addr
  NoText : Addr
  NoCopy : Addr
  NoFit : Addr
  NoRoom : Addr
  Unlike : Addr
  NoDeed : Addr
  NoHour : Addr
  NoRow : Addr
structure Txt (K : PySem.W.Frag) (mg : Str → Option Value) (c : Ad) : Prop where
  b_ValueError : mg "ValueError" = none
  b_abs : mg "abs" = none
  b_all : mg "all" = none
  b_int : mg "int" = none
  b_isinstance : mg "isinstance" = none
  b_len : mg "len" = none
  b_list : mg "list" = none
  b_range : mg "range" = none
  b_repr : mg "repr" = none
  b_str : mg "str" = none
  g_SIXTEEN : Glb mg "SIXTEEN" (.str "0123456789abcdef")
  g_NightError : mg "NightError" = some (.ref c.NightError)
  g_NoText : mg "NoText" = some (.ref c.NoText)
  g_NoCopy : mg "NoCopy" = some (.ref c.NoCopy)
  g_NoFit : mg "NoFit" = some (.ref c.NoFit)
  g_NoRoom : mg "NoRoom" = some (.ref c.NoRoom)
  g_Unlike : mg "Unlike" = some (.ref c.Unlike)
  g_NoDeed : mg "NoDeed" = some (.ref c.NoDeed)
  g_NoHour : mg "NoHour" = some (.ref c.NoHour)
  g_NoRow : mg "NoRow" = some (.ref c.NoRow)
  bas_NightError : BaseC K mg "NightError" c.NightError
  oex_NoText : OexC K c.NoText
  exc_NoText : ExcC K c.NoText
  no_NoText_row : PySem.W.findIn K (.ref c.NoText) "row" = some none
  exm_NoText_NightError : PySem.W.exmOne K (.ref c.NoText) (.ref c.NightError) = some true
  kit_NoText_NoCopy : PySem.W.kitOne K (.ref c.NoText) (.ref c.NoCopy) = some false
  kit_NoText_NoDeed : PySem.W.kitOne K (.ref c.NoText) (.ref c.NoDeed) = some false
  kit_NoText_NoFit : PySem.W.kitOne K (.ref c.NoText) (.ref c.NoFit) = some false
  kit_NoText_NoHour : PySem.W.kitOne K (.ref c.NoText) (.ref c.NoHour) = some false
  kit_NoText_NoRoom : PySem.W.kitOne K (.ref c.NoText) (.ref c.NoRoom) = some false
  kit_NoText_NoRow : PySem.W.kitOne K (.ref c.NoText) (.ref c.NoRow) = some false
  kit_NoText_Unlike : PySem.W.kitOne K (.ref c.NoText) (.ref c.Unlike) = some false
  kit_NoText_ValueError : PySem.W.kitOne K (.ref c.NoText) (.type "ValueError") = some true
  kit_NoText_NoText : PySem.W.kitOne K (.ref c.NoText) (.ref c.NoText) = some true
theorem ok_NoTextD_initD {P : Program} {w : World} {K : PySem.W.Frag} {mg : Str → Option Value} {base : Heap} {c : Ad} {f : Addr} {fd : FuncData} (T : Txt K mg c) (F : Fun K "__init__" "NoText.__init__" s_NoTextD_initD f fd) : FnOk P w K mg base CX0 1 f fd ps_NoTextD_initD (spInit c.NoText ["row"]) := by
  refine F.ok sc_NoTextD_initD (fun vs H Q E h => ?_) (fun cdv A outer s H vs Q E hr h => ?_)
  · obtain ⟨a, ws, rfl, hl, _⟩ := h
    exact congrArg Nat.succ hl
  · obtain ⟨a, ws, rfl, hl, ha, k⟩ := h
    obtain ⟨w0, rfl⟩ : ∃ w0 : V, ws = [w0] := by
      match ws, hl with
      | [w0], _ => exact ⟨_, rfl⟩
    refine ⟨_, (pss_cons (ps_expr (pe_binit K T.bas_NightError (pa_cons (pv 0) (pa_cons pe_str pa_nil))))
      (pss_one (ps_ost (pv 0) (pv 1)))), ?_⟩
    refine ⟨_, rfl, a, _, [_], rfl, (by show 1 ≤ 1000; decide), T.oex_NoText, ha, ?_⟩
    refine ⟨_, rfl, _, rfl, a, _, rfl, T.oex_NoText, T.no_NoText_row, .inl ⟨ha, fun d nd ne => ?_⟩⟩
    refine k d _ nd ne ?_ ?_ (fun b h1 h2 => ?_)
    · exact upd_same
    · rw [upd_ne ne]
      exact upd_same
    · rw [upd_ne h1, upd_ne h2]

def sp__law_draw (K : PySem.W.Frag) : Sp := spDraw K

theorem ok__law_draw {P : Program} {w : World} {K : PySem.W.Frag} {mg : Str → Option Value} {base : Heap} {c : Ad} {f : Addr} {fd : FuncData} (T : Txt K mg c) (F : Fun K "_law_draw" "_law_draw" s__law_draw f fd)
     : FnG P w K mg base CX0 1 f fd ps__law_draw (sp__law_draw K) := by
  refine Fun.okG F sc__law_draw (fun vs H Q E h => ?_) (fun cdv A outer s H vs Q E hgd hr h => ?_)
  · obtain ⟨G, tp, n, many, rfl, ⟨sG, gt, c, ns, at0, left, hc, hT, h0, h1, h2⟩, m0, m1, hn, k⟩ := h
    rfl
  · obtain ⟨G, tp, n, many, rfl, ⟨sG, gt, c, ns, at0, left, hc, hT, h0, h1, h2⟩, m0, m1, hn, k⟩ := h
    refine ⟨_, (pss_cons (ps_if (pt_cmpR op_gt (pe_ix (ix_listK K) (pv 0) pe_int (fun _ _ => rfl)) pe_int (nomark _))
      (pss_cons (ps_set (i := 2) sc__law_draw.nd rfl (Or.inl rfl) (pe_op op_mod (pe_ix (ix_listK K) (pv 0) pe_int (fun _ _ => rfl)) (pv 1)))
      (pss_cons (ps_asg (pe_op op_fdivN (pe_ix (ix_listK K) (pv 0) pe_int (fun _ _ => rfl)) (pv 1)) (pg_sub (pv 0) pe_int set_list))
      (pss_one (ps_ret (pv 2)))))
      pss_nil)
      (pss_cons (ps_set (i := 3) sc__law_draw.nd rfl (Or.inl rfl) (pe_ix (ix_listK K) (pv 0) pe_int (fun _ _ => rfl)))
      (pss_cons (ps_asg (pe_op op_add (pv 3) pe_int) (pg_sub (pv 0) pe_int set_list))
      (pss_cons (ps_set (i := 4) sc__law_draw.nd rfl (Or.inl rfl) pe_int)
      (pss_cons (ps_if (pt_cmpR (op_neDK K hr.units) (pe_ix (ix_listK K) (pv 0) pe_int (fun _ _ => rfl)) (pe_lst pa_nil) (nomark _))
      (pss_one (ps_set (i := 4) sc__law_draw.nd rfl (Or.inl rfl) (pe_ix (ix_listK K) (pe_ix (ix_listK K) (pv 0) pe_int (fun _ _ => rfl)) (pe_op op_mod (pv 3) (pe_callB (call_lenK K) (by rfl) T.b_len (by decide +kernel) (pa_cons (pe_ix (ix_listK K) (pv 0) pe_int (fun _ _ => rfl)) pa_nil))) (fun _ _ => rfl))))
      pss_nil)
      (pss_cons (ps_if (PW.pt (pw_and (pt_cmpR op_lt (pv 3) (pe_callB (call_lenK K) (by rfl) T.b_len (by decide +kernel) (pa_cons (pe_ix (ix_listK K) (pv 0) pe_int (fun _ _ => rfl)) pa_nil)) (nomark _)) (pw_and1 (pt_cmpR op_ge (pe_callB call_abs (by rfl) T.b_abs (by decide +kernel) (pa_cons (pv 4) pa_nil)) (pe_op op_pow pe_int pe_int) (nomark _)))))
      (pss_cons (ps_asg (pe_op op_fdivN (pe_op op_sub (pe_callB call_abs (by rfl) T.b_abs (by decide +kernel) (pa_cons (pv 4) pa_nil)) (pe_op op_pow pe_int pe_int)) (pv 1)) (pg_sub (pv 0) pe_int set_list))
      (pss_one (ps_ret (pe_op op_mod (pe_op op_sub (pe_callB call_abs (by rfl) T.b_abs (by decide +kernel) (pa_cons (pv 4) pa_nil)) (pe_op op_pow pe_int pe_int)) (pv 1)))))
      pss_nil)
      (pss_cons (ps_set (i := 5) sc__law_draw.nd rfl (Or.inl rfl) (pe_lst (pa_cons pe_int (pa_cons pe_int (pa_cons pe_int (pa_cons pe_int (pa_cons pe_int pa_nil)))))))
      (pss_cons (ps_set (i := 6) sc__law_draw.nd rfl (Or.inl rfl) (pe_ix (ix_listK K) (pv 5) (pe_op op_mod (pv 3) pe_int) (fun _ _ => rfl)))
      (pss_cons (ps_set (i := 7) sc__law_draw.nd rfl (Or.inl rfl) (pe_op op_mod (pe_op op_add (pe_op op_add (pe_op op_add (pe_op op_mul (pe_op op_mod (pv 4) (pv 6)) pe_int) (pe_op op_mul (pe_op op_mul pe_int (pv 3)) (pv 3))) (pe_op op_mul pe_int (pv 3))) pe_int) (pv 6)))
      (pss_cons (ps_set (i := 7) sc__law_draw.nd rfl (Or.inl rfl) (pe_op op_mod (pe_op op_mul (pv 7) (pe_op op_add (pv 7) pe_int)) (pe_ix (ix_listK K) (pv 5) (pe_op op_mod (pe_op op_add (pv 3) pe_int) pe_int) (fun _ _ => rfl))))
      (pss_one (ps_ret (pe_op op_mod (pe_op op_fdiv (pe_op op_mod (pe_op op_mul (pv 7) (pv 7)) pe_int) pe_int) (pv 1)))))))))))))), ?_⟩
    have hc' : SqL K H c (ns.map V.int) := sG.seq hc
    have mne : many ≠ 0 ∧ many.natAbs < 1073741824 := ⟨by omega, by omega⟩
    refine ⟨_, rfl, tp, _, _, _, rfl, rfl, SqL.of hT, rfl, _, _, rfl, rfl, _, rfl, ?_⟩
    refine ite2 (fun hl => ?_) (fun hl => ?_)
    · refine ⟨_, rfl, tp, _, _, _, rfl, rfl, SqL.of hT, rfl, _, rfl, _, _, rfl, rfl, m0, ?_⟩
      refine ⟨_, rfl, tp, _, _, _, rfl, rfl, SqL.of hT, rfl, _, rfl, _, _, rfl, rfl, mne, _, rfl, tp, _, _, 2, rfl, rfl, hT, rfl, ?_⟩
      refine ⟨_, rfl, ?_⟩
      refine k _ _ (Int.emod_nonneg _ (by omega)) (Int.emod_lt_of_pos _ m0) But.mut ?_
      refine Tape.step sG gt hc h0 (by omega) ?_
      rw [Int.fdiv_eq_ediv_of_nonneg _ (by omega)]
      exact Int.ediv_nonneg h2 (by omega)
    · refine ⟨_, rfl, tp, _, _, _, rfl, rfl, SqL.of hT, rfl, ?_⟩
      refine ⟨_, rfl, _, _, rfl, rfl, _, rfl, tp, _, _, 1, rfl, rfl, hT, rfl, ?_⟩
      generalize hH1 : upd H tp _ = H1
      have hT1 : H1 tp = some (.lst [.ref c, .int (at0 + 1), .int left]) := by rw [← hH1]; exact upd_same
      have sG1 : Same G H1 := by rw [← hH1]; exact same_mut sG gt
      have hc1 : SqL K H1 c (ns.map V.int) := sG1.seq hc
      have bt1 : But tp H H1 := by rw [← hH1]; exact But.mut
      dsimp only
      refine asgc_step ?_
      refine seq_have (fun σ H' => ∃ cell : Int, σ = [some (.ref tp), some (.int many), none, some (.int at0), some (.int cell), none, none, none] ∧ Same G H' ∧ But tp H H' ∧ H' tp = some (.lst [.ref c, .int (at0 + 1), .int left])) ?_ ?_
      · rintro σ H2 ⟨cell, rfl, sG2, bt2, hT2⟩
        have hc2 : SqL K H2 c (ns.map V.int) := sG2.seq hc
        refine seq_have (fun σ H' => σ = [some (.ref tp), some (.int many), none, some (.int at0), some (.int cell), none, none, none] ∧ H2 = H') ?_ ?_
        · rintro σ H' ⟨rfl, rfl⟩
          refine ⟨(by show 5 ≤ sizeLine; decide), fun p hp => ?_⟩
          have hT3 : (upd H2 p (.lst [.int 2147483647, .int 2147483629, .int 2147483587, .int 2147483579, .int 2147483563])) tp = some (.lst [.ref c, .int (at0 + 1), .int left]) := by
            rw [upd_ne (ne_of_none hT2 hp)]
            exact hT2
          have sG3 : Same G (upd H2 p (.lst [.int 2147483647, .int 2147483629, .int 2147483587, .int 2147483579, .int 2147483563])) := sG2.trans (same_new hp)
          have five : ∀ i : Int, ∃ q : Int, atI ([.int 2147483647, .int 2147483629, .int 2147483587, .int 2147483579, .int 2147483563] : List V) (i % 5) = some (.int q) ∧ 2000000000 < q ∧ q < 2147483648 := fun i => by
            have e1 := Int.emod_nonneg i (show (5 : Int) ≠ 0 by decide)
            have e2 := Int.emod_lt_of_pos i (show (0 : Int) < 5 by decide)
            have e3 : i % 5 = 0 ∨ i % 5 = 1 ∨ i % 5 = 2 ∨ i % 5 = 3 ∨ i % 5 = 4 := by omega
            rcases e3 with e | e | e | e | e <;> rw [e] <;> exact ⟨_, rfl, by decide, by decide⟩
          obtain ⟨q1, a1, b1, b2⟩ := five at0
          obtain ⟨q2, a2, b3, b4⟩ := five (at0 + 2)
          refine ⟨_, rfl, _, rfl, _, _, rfl, rfl, (by show (0 : Int) < 5; decide), p, _, _, _, rfl, rfl, SqL.of upd_same, a1, ?_⟩
          have c1 := Int.emod_nonneg cell (show q1 ≠ 0 by omega)
          have c2 := Int.emod_lt_of_pos cell (show 0 < q1 by omega)
          refine ⟨_, rfl, _, rfl, _, _, rfl, rfl, (by show 0 < q1; omega), _, _, rfl, rfl, .inr ⟨by decide, by decide⟩, _, rfl, _, _, rfl, rfl, .inl ⟨by decide, by decide⟩, _, rfl, _, _, rfl, rfl, .inr ⟨by omega, by omega⟩, _, _, rfl, rfl, _, rfl, _, _, rfl, rfl, .inl ⟨by decide, by decide⟩,
            _, _, rfl, rfl, _, _, rfl, rfl, _, rfl, _, _, rfl, rfl, (by show 0 < q1; omega), ?_⟩
          dsimp only
          generalize hm : (cell % q1 * 48271 + 7919 * at0 * at0 + 69621 * at0 + 1) % q1 = mix
          have d1 : 0 ≤ mix := by rw [← hm]; exact Int.emod_nonneg _ (by omega)
          have d2 : mix < q1 := by rw [← hm]; exact Int.emod_lt_of_pos _ (by omega)
          refine ⟨_, rfl, _, rfl, _, _, rfl, rfl, _, _, rfl, rfl, .inl ⟨by omega, by omega⟩, _, rfl, _, rfl, _, _, rfl, rfl, _, _, rfl, rfl, (by show (0 : Int) < 5; decide), p, _, _, _, rfl, rfl, SqL.of upd_same, a2, _, _, rfl, rfl, (by show 0 < q2; omega), ?_⟩
          dsimp only
          generalize hm2 : mix * (mix + 16807) % q2 = mix2
          have d3 : 0 ≤ mix2 := by rw [← hm2]; exact Int.emod_nonneg _ (by omega)
          have d4 : mix2 < q2 := by rw [← hm2]; exact Int.emod_lt_of_pos _ (by omega)
          refine ⟨_, rfl, _, rfl, _, _, rfl, rfl, .inl ⟨by omega, by omega⟩, _, _, rfl, rfl, (by show (0 : Int) < 2147483549; decide), _, _, rfl, rfl, ⟨by decide, by decide⟩, _, rfl, _, _, rfl, rfl, m0, ?_⟩
          refine k _ _ (Int.emod_nonneg _ (by omega)) (Int.emod_lt_of_pos _ m0) (bt2.trans (But.new hp)) ⟨sG3, gt, c, ns, at0 + 1, left, hc, hT3, by omega, by omega, h2⟩
        · intro rest
          refine ⟨_, rfl, _, rfl, tp, _, _, _, rfl, rfl, SqL.of hT2, rfl, c, _, rfl, .inl hc2, _, _, rfl, rfl, _, rfl, ?_⟩
          refine ite2 (fun _ => ?_) (fun _ => iteF (rest _ _ ⟨rfl, rfl⟩))
          refine ⟨_, rfl, _, rfl, _, _, rfl, rfl, ⟨by decide, by decide, by decide⟩, _, _, rfl, rfl, _, rfl, ?_⟩
          refine ite2 (fun hb => ?_) (fun _ => rest _ _ ⟨rfl, rfl⟩)
          have hb' := of_decide_eq_true hb
          refine ⟨_, rfl, _, rfl, _, _, rfl, rfl, ⟨by decide, by decide, by decide⟩, _, _, rfl, rfl, _, rfl, _, _, rfl, rfl, mne, _, rfl, tp, _, _, 2, rfl, rfl, hT2, rfl, ?_⟩
          refine ⟨_, rfl, _, rfl, _, _, rfl, rfl, ⟨by decide, by decide, by decide⟩, _, _, rfl, rfl, _, rfl, _, _, rfl, rfl, m0, ?_⟩
          refine k _ _ (Int.emod_nonneg _ (by omega)) (Int.emod_lt_of_pos _ m0) (bt2.trans But.mut) ?_
          refine Tape.step sG2 gt hc (by omega) (by omega) ?_
          rw [Int.fdiv_eq_ediv_of_nonneg _ (by omega)]
          exact Int.ediv_nonneg (by omega) (by omega)
      · intro rest
        refine ⟨_, rfl, tp, _, _, _, rfl, rfl, SqL.of hT1, rfl, Nat.zero_le _, fun p hp => ?_⟩
        refine ⟨.list (ns.map .int), .list [], .lst ((sG1.trans (same_new hp)).seq hc) (dp_ints ns), .lst (SqL.of upd_same) .nil, shaped_ints ns, rfl, _, rfl, ?_⟩
        have hT2 : (upd H1 p (.lst [])) tp = some (.lst [.ref c, .int (at0 + 1), .int left]) := by
          rw [upd_ne (ne_of_none hT1 hp)]
          exact hT1
        have sG2 : Same G (upd H1 p (.lst [])) := sG1.trans (same_new hp)
        refine ite2 (fun hb => ?_) (fun _ => rest _ _ ⟨0, rfl, sG2, bt1.trans (But.new hp), hT2⟩)
        have hne : 0 < ns.length := by
          cases ns with
          | nil => exact absurd hb (by decide)
          | cons x y => exact Nat.succ_pos _
        obtain ⟨v, hv⟩ := atI_mod (ns := ns) (i := at0 % (ns.length : Int)) (Int.emod_nonneg _ (by omega)) (Int.emod_lt_of_pos _ (by omega))
        refine ⟨_, rfl, tp, _, _, _, rfl, rfl, SqL.of hT2, rfl, _, rfl, _, rfl, tp, _, _, _, rfl, rfl, SqL.of hT2, rfl, c, _, rfl, .inl (sG2.seq hc), _, _, rfl, rfl, (by show (0 : Int) < ((ns.map V.int).length : Int); rw [List.length_map]; omega), c, _, _, _, rfl, rfl, sG2.seq hc, (by rw [List.length_map]; exact hv), ?_⟩
        exact rest _ _ ⟨v, rfl, sG2, bt1.trans (But.new hp), hT2⟩

def sp__law_tape (K : PySem.W.Frag) : Sp := fun vs H Q _ => ∃ (a : Addr) (ns : List Int), vs = [.ref a] ∧ SqL K H a (ns.map V.int) ∧ ∀ tp G H', Same H G → Tape K G H' tp 0 → Q (.ref tp) H'

theorem ok__law_tape {P : Program} {w : World} {K : PySem.W.Frag} {mg : Str → Option Value} {base : Heap} {c : Ad} {f : Addr} {fd : FuncData} (T : Txt K mg c) (F : Fun K "_law_tape" "_law_tape" s__law_tape f fd)
     : FnG P w K mg base CX0 1 f fd ps__law_tape (sp__law_tape K) := by
  refine Fun.okG F sc__law_tape (fun vs H Q E h => ?_) (fun cdv A outer s H vs Q E hgd hr h => ?_)
  · obtain ⟨a, ns, rfl, hS, k⟩ := h
    rfl
  · obtain ⟨a, ns, rfl, hS, k⟩ := h
    refine ⟨_, (pss_one (ps_ret (pe_lst (pa_cons (pe_callTy (call_listK K) (by rfl) T.b_list (by decide +kernel) (pa_cons (pe_slice (sl_listK K) (pv 0) po_none (po_some pe_int)) pa_nil)) (pa_cons pe_int (pa_cons pe_int pa_nil)))))), ?_⟩
    refine ⟨_, rfl, _, rfl, a, _, rfl, hS, fun p1 n1 => ?_⟩
    obtain ⟨ms, em⟩ := cutV_ints ns none (some 63)
    rw [em]
    refine ⟨p1, _, rfl, .inl (SqL.of upd_same), fun p2 n2 => ?_⟩
    refine ⟨(by show 3 ≤ sizeLine; decide), fun p3 n3 => ?_⟩
    refine k p3 _ _ ((same_new n1).trans (same_new n2)) ⟨same_new n3, n3, p2, ms, 0, 0, SqL.of upd_same, upd_same, by decide, by decide, by decide⟩

def SIG : Str := (" !\"#$&'()*+,-./0123456789:;<=>?@ABCDEFGHIJKLMNOPQRSTUVWXYZ[\\]^_" : Str) ++ ("`abcdefghijklmnopqrstuvwxyz{|}~" : Str)
theorem sig_len : SIG.length = 94 := by decide +kernel
def sp__law_signs : Sp := fun vs H Q _ => vs = [] ∧ Q (.str SIG) H

theorem ok__law_signs {P : Program} {w : World} {K : PySem.W.Frag} {mg : Str → Option Value} {base : Heap} {c : Ad} {f : Addr} {fd : FuncData} (T : Txt K mg c) (F : Fun K "_law_signs" "_law_signs" s__law_signs f fd)
     : FnG P w K mg base CX0 1 f fd ps__law_signs (sp__law_signs) := by
  refine Fun.okG F sc__law_signs (fun vs H Q E h => ?_) (fun cdv A outer s H vs Q E hgd hr h => ?_)
  · obtain ⟨rfl, k⟩ := h
    rfl
  · obtain ⟨rfl, k⟩ := h
    refine ⟨_, (pss_cons (ps_set (i := 0) sc__law_signs.nd rfl (Or.inl rfl) pe_str)
      (pss_one (ps_ret (pe_op op_add_str (pv 0) pe_str)))), ?_⟩
    exact ⟨_, rfl, _, _, rfl, rfl, (by decide +kernel), k⟩

def HXL : List Nat := (("0123456789abcdef" : Str)).cps.toList
theorem hxl_eq : HXL = [48, 49, 50, 51, 52, 53, 54, 55, 56, 57, 97, 98, 99, 100, 101, 102] := by decide +kernel
def dg (i : Nat) : Nat := HXL.getD i 48
theorem dg_at {i : Nat} (h : i < 16) : HXL[i]? = some (dg i) := by
  have : ∀ j : Fin 16, HXL[j.val]? = some (dg j.val) := by decide +kernel
  exact this ⟨i, h⟩
theorem atI_dg {i : Int} (h0 : 0 ≤ i) (h1 : i < 16) : atI HXL i = some (dg i.toNat) := by
  have : ∀ j : Fin 16, atI HXL (j.val : Int) = some (dg j.val) := by decide +kernel
  obtain ⟨n, rfl⟩ := Int.eq_ofNat_of_zero_le h0
  have e := this ⟨n, by omega⟩
  exact e
theorem dg_lt {i : Nat} : dg i < 128 := by
  by_cases h : i < 16
  · have : ∀ j : Fin 16, dg j.val < 128 := by decide +kernel
    exact this ⟨i, h⟩
  · unfold dg
    rw [List.getD_eq_getElem?_getD, List.getElem?_eq_none (by rw [hxl_eq]; show 16 ≤ i; omega)]
    decide
def sfx (n : Nat) : Nat → Str
  | 0 => ("" : Str)
  | i + 1 => (⟨#[dg (n / 16 ^ i % 16)]⟩ : Str) ++ sfx n i
def mtx (n : Nat) : Str := sfx n 4
/-- texts of few signs below 128 -/
structure Ax (m : Nat) (x : Str) : Prop where
  tx : Tx m x
  lo : ∀ c ∈ x.cps.toList, c < 128
theorem Ax.add {n m : Nat} {x y : Str} (h : Ax n x) (h' : Ax m y) : Ax (n + m) (x ++ y) := ⟨h.tx.add h'.tx, fun c hc => by
  rw [toList_add] at hc
  exact (List.mem_append.mp hc).elim (h.lo c) (h'.lo c)⟩
theorem Ax.mono {n m : Nat} {x : Str} (h : Ax n x) (e : n ≤ m) : Ax m x := ⟨h.tx.mono e, h.lo⟩
theorem Ax.sign {c : Nat} (h : c < 128) : Ax 1 (⟨#[c]⟩ : Str) := ⟨Tx.sign (by omega), fun d hd => by
  cases List.mem_singleton.mp hd
  exact h⟩
theorem Ax.empty : Ax 0 ("" : Str) := ⟨Tx.lit "" (by decide), fun c hc => by cases hc⟩
theorem sfx_ax (n : Nat) : ∀ i, Ax i (sfx n i)
  | 0 => Ax.empty
  | i + 1 => ((Ax.sign dg_lt).add (sfx_ax n i)).mono (by omega)
theorem mtx_join (n : Nat) : Txt.join ("" : Str) [⟨#[dg (n / 4096 % 16)]⟩, ⟨#[dg (n / 256 % 16)]⟩, ⟨#[dg (n / 16 % 16)]⟩, ⟨#[dg (n % 16)]⟩] = mtx n := by
  unfold mtx sfx sfx sfx sfx sfx
  rw [Nat.pow_zero, Nat.div_one]
  rfl
def hexS (x : Str) : Bool := decide (x.length = 4) && x.cps.toList.all fun c => decide (c ∈ HXL)
def hexV : V → Option Nat
  | .str x => if hexS x = true then some (Hx.hexNum x.cps.toList) else none
  | _ => none
theorem hex_is {c : Nat} (h : c ∈ HXL) : Hx.IsHex c := by
  rw [hxl_eq] at h
  unfold Hx.IsHex
  simp only [List.mem_cons, List.not_mem_nil, or_false] at h
  omega
theorem hex_ix {c : Nat} (h : c ∈ HXL) : ∃ j, HXL[j]? = some c ∧ j = Hx.hv c ∧ ∀ m d, m < j → HXL[m]? = some d → d ≠ c := by
  have : ∀ c ∈ HXL, HXL[Hx.hv c]? = some c ∧ ∀ m, m < Hx.hv c → HXL[m]? ≠ some c := by
    rw [hxl_eq]
    decide +kernel
  obtain ⟨a, b⟩ := this c h
  exact ⟨_, a, rfl, fun m d hm e z => b m hm (by rw [e, z])⟩
def ThN (H : Hp) (v : V) : Prop := Th H v ∧ ∀ x, v = .str x → Tx 100 x
theorem ThN.mono {H H' : Hp} {v : V} (h : ThN H v) (s : Same H H') : ThN H' v := ⟨h.1.mono s, h.2⟩
theorem ThN.str {H : Hp} {n : Nat} {x : Str} (h : Tx n x) (e : n ≤ 100) : ThN H (.str x) := ⟨Th.str x, fun y q => by cases q; exact h.mono e⟩


def sp_mark_text : Sp := fun vs H Q _ => ∃ n : Nat, vs = [.int n] ∧ ∀ H', Same H H' → Q (.str (mtx n)) H'

theorem ok_mark_text {P : Program} {w : World} {K : PySem.W.Frag} {mg : Str → Option Value} {base : Heap} {c : Ad} {f : Addr} {fd : FuncData} (T : Txt K mg c) (F : Fun K "mark_text" "mark_text" s_mark_text f fd)
     : FnG P w K mg base CX0 1 f fd ps_mark_text (sp_mark_text) := by
  refine Fun.okG F sc_mark_text (fun vs H Q E h => ?_) (fun cdv A outer s H vs Q E hgd hr h => ?_)
  · obtain ⟨n, rfl, k⟩ := h
    rfl
  · obtain ⟨n, rfl, k⟩ := h
    refine ⟨_, (pss_cons (ps_set (i := 1) sc_mark_text.nd rfl (Or.inl rfl) pe_str)
      (pss_cons (ps_for PassesOwn.never rfl (pi_range1 (by rfl) T.b_range (pa_cons pe_int pa_nil)) (pg_name (i := 2) sc_mark_text.nd rfl (Or.inl rfl))
      (pss_cons (ps_set (i := 1) sc_mark_text.nd rfl (Or.inl rfl) (pe_op op_add_str (pe_ix ix_str (pe_g T.g_SIXTEEN) (pe_op op_and (pv 0) pe_int) (fun _ _ => rfl)) (pv 1)))
      (pss_one (ps_aug (i := 0) sc_mark_text.nd rfl (Or.inl rfl) pe_int iop_shr))))
      (pss_one (ps_ret (pv 1))))), ?_⟩
    refine ⟨_, rfl, (by decide), (by decide), for_it (walk_range (lo := 0)) (fun i σ H' => ∃ t : Option V, σ = [some (.int ((n / 16 ^ i : Nat) : Int)), some (.str (sfx n i)), t] ∧ Same H H') ⟨none, by rw [Nat.pow_zero, Nat.div_one]; rfl, Same.refl H⟩ (fun _ _ _ _ _ => trivial) ?_ ?_⟩
    · rintro i x σ H1 H1' hi ⟨t, rfl, s1⟩ ⟨rfl, rfl⟩
      have hi' : i < 4 := by first | exact hi | (have := hi; omega)
      have e1 : Builtin.bitAnd ((n / 16 ^ i : Nat) : Int) 15 = ((n / 16 ^ i % 16 : Nat) : Int) := by
        have := PySem.W.kbt_mask ((n / 16 ^ i : Nat) : Int) 4
        rw [show ((2 : Int) ^ 4 - 1) = 15 from rfl] at this
        rw [this] <;> simp
      have hlt : n / 16 ^ i % 16 < 16 := Nat.mod_lt _ (by decide)
      have ax := sfx_ax n i
      refine ⟨_, rfl, _, _, rfl, rfl, _, _, dg (n / 16 ^ i % 16), rfl, rfl, (by decide +kernel), ?_, _, rfl, _, _, rfl, rfl, (Ax.sign dg_lt).tx.fit ax.tx, ?_⟩
      · show atI HXL (Builtin.bitAnd ((n / 16 ^ i : Nat) : Int) 15) = _
        rw [e1, atI_dg (by omega) (by omega), Int.toNat_natCast]
      refine ⟨_, rfl, _, _, rfl, rfl, (by show (0 : Int) ≤ 4; decide), ?_⟩
      refine ⟨some (.int (0 + (i : Int))), ?_, s1⟩
      rw [show n / 16 ^ (i + 1) = n / 16 ^ i / 16 by rw [Nat.pow_succ, Nat.div_div_eq_div_mul]] <;> rfl
    · rintro σ H1 ⟨t, rfl, s1⟩
      exact ⟨_, rfl, k _ s1⟩

def sp_mark_by (c : Ad) : Sp := fun vs H Q E => ∃ v, vs = [v] ∧ ThN H v ∧ (∀ n H', hexV v = some n → Same H H' → Q (.int (n : Int)) H') ∧
  (hexV v = none → ∀ d H1, Same H H1 → H1 d = none → E (.ref c.NoText) (some d) (upd H1 d (.xd [("row", .int 0)])))

theorem ok_mark_by {P : Program} {w : World} {K : PySem.W.Frag} {mg : Str → Option Value} {base : Heap} {c : Ad} {f : Addr} {fd : FuncData} (T : Txt K mg c) (F : Fun K "mark_by" "mark_by" s_mark_by f fd)
    (R_NoText : RaiseC P w K mg base c.NoText "NoText" ps_NoTextD_initD ["row"]) : FnG P w K mg base (L2.CX P w) 4 f fd ps_mark_by (sp_mark_by c) := by
  obtain ⟨fI_NoText, fdI_NoText, ini_NoText, tin_NoText, I_NoText, BI_NoText⟩ := R_NoText
  refine Fun.okGX F sc_mark_by (fun vs H Q E h => ?_) (fun cdv A outer s H vs Q E hgd hr h => ?_)
  · obtain ⟨v, rfl, ⟨hv, hl⟩, k, kE⟩ := h
    rfl
  · obtain ⟨v, rfl, ⟨hv, hl⟩, k, kE⟩ := h
    refine ⟨_, (pss_cons (ps_if (PW.pt (pw_or (pt_not (pt_val (pe_callB (call_isiKK K) (by rfl) T.b_isinstance (by decide +kernel) (pa_cons (pv 0) (pa_cons (pe_bltn (v := .ty "str") rfl T.b_str (by decide +kernel) rfl) pa_nil))))) (pw_or (pt_cmpR op_ne (pe_callB call_len_str (by rfl) T.b_len (by decide +kernel) (pa_cons (pv 0) pa_nil)) pe_int (nomark _)) (pw_or1 (pt_not (pt_val (pe_callB (cr_allK K rfl) (by rfl) T.b_all (by decide +kernel) (pa_cons (pe_lc (own := [("sign", 1)]) (g := gName 1) (tt := tYes) (by rfl) sc_mark_by.nd (pi_str (pv 0)) (blkOk_by (own := [("sign", 1)]) (N := nm_mark_by) (sc := defScope s_mark_by) (by decide +kernel)) (fun _ _ _ _ _ => (pg_name (i := 1) sc_mark_by.nd rfl (Or.inl rfl))) (fun _ _ _ _ _ => pts_nil) (fun _ _ _ _ _ => (pe_cmpR op_in_sign (pv 1) (pe_g T.g_SIXTEEN) rfl))) pa_nil))))))))
      (pss_one (ps_raise rfl (takes_of rfl rfl rfl rfl) (pmk_oex T.oex_NoText ini_NoText tin_NoText (I_NoText) (hr.mono (by decide)) BI_NoText .nil pass0 rfl T.g_NoText (pa_cons pe_int pa_nil))))
      pss_nil)
      (pss_one (ps_ret (pe_callTy call_int_hex (by rfl) T.b_int (by decide +kernel) (pa_cons (pv 0) (pa_cons pe_int pa_nil)))))), ?_⟩
    obtain ⟨t1, ty1, k1⟩ := isi_of (K := K) hv "str" (by decide)
    have bad : hexV v = none → ∀ H1, Same H H1 → _ := fun e H1 s1 => mk_tail (C := c.NoText) (names := ["row"]) (vs := [.int 0]) (H1 := H1) (Q := fun cls d H' => E cls d H') rfl (by decide) fun d nd => kE e d H1 s1 nd
    refine ⟨_, rfl, _, _, t1, _, _, rfl, .ty _, ty1, k1, _, rfl, ?_⟩
    refine ite2 (fun h1 => ?_) (fun h1 => ?_)
    · exact bad (by cases v <;> first | rfl | exact absurd h1 Bool.false_ne_true) H (Same.refl H)
    obtain ⟨z, rfl⟩ := isK_str (v := v) (by cases hh : isK "str" v with | true => rfl | false => exact absurd (by rw [hh]; rfl) h1)
    have hx := hl z rfl
    have hz := hx.len
    refine ⟨_, rfl, _, rfl, hx.size, rfl, _, rfl, ?_⟩
    refine ite2 (fun h2 => ?_) (fun h2 => ?_)
    · refine bad ?_ H (Same.refl H)
      show (if hexS z = true then _ else _) = none
      rw [if_neg]
      intro q
      have q1 := of_decide_eq_true (Bool.and_eq_true_iff.mp q).1
      rw [decide_eq_true (show V.int (z.length : Int) = V.int 4 by rw [q1] <;> rfl)] at h2
      exact absurd h2 (by decide)
    have h4 : z.length = 4 := by
      by_cases e : V.int (z.length : Int) = V.int 4
      · injection e with e
        omega
      · rw [decide_eq_false e] at h2
        exact absurd rfl h2
    refine ⟨_, rfl, z, rfl, fun D nD => ?_⟩
    refine lc_it walk_str (fun i H' => Same H H' ∧ H' D = some (.lst ((z.cps.toList.take i).map fun c => V.bl (decide (c ∈ HXL))))) ⟨same_new nD, upd_same⟩ (fun _ _ _ _ => trivial) ?_ ?_
    · rintro i x H1 H2 hi ⟨s1, e1⟩ ⟨rfl, c, hc, rfl⟩
      refine ⟨rfl, ?_⟩
      refine ⟨_, rfl, c, _, rfl, rfl, ?_⟩
      have hc' : z.cps.toList[i]? = some c := by rw [Array.getElem?_toList]; exact hc
      refine ⟨_, e1, ?_, same_mut s1 nD, ?_⟩
      · rw [List.length_map, List.length_take, Array.length_toList]
        exact Nat.lt_of_le_of_lt (Nat.min_le_right _ _) (Nat.lt_of_le_of_lt hz (by decide))
      · rw [take_succ_map _ hc']
        exact upd_same
    · rintro H1 ⟨s1, e1⟩
      rw [List.take_of_length_le (by rw [Array.length_toList]; exact Nat.le_refl _)] at e1
      refine ⟨D, z.cps.toList.map (fun c => decide (c ∈ HXL)), rfl, SqL.of (by rw [e1, List.map_map] <;> rfl), _, rfl, ?_⟩
      rw [List.all_map]
      by_cases hh : z.cps.toList.all (id ∘ fun c => decide (c ∈ HXL)) = true
      · rw [hh]
        have e : hexV (.str z) = some (Hx.hexNum z.cps.toList) := by
          show (if hexS z = true then _ else _) = _
          rw [if_pos]
          exact Bool.and_eq_true_iff.mpr ⟨decide_eq_true h4, hh⟩
        refine ⟨_, rfl, z.cps.toList, rfl, ?_, ?_, fun c hc => ?_, k _ _ e s1⟩
        · intro q
          have := congrArg List.length q
          rw [Array.length_toList] at this
          have h4' : z.cps.size = 4 := h4
          rw [h4'] at this
          exact absurd this (by decide)
        · rw [Array.length_toList]
          have h4' : z.cps.size = 4 := h4
          omega
        · exact hex_is (of_decide_eq_true (List.all_eq_true.mp hh c hc))
      · rw [Bool.eq_false_iff.mpr hh]
        refine bad ?_ H1 s1
        show (if hexS z = true then _ else _) = none
        rw [if_neg]
        intro q
        exact hh (Bool.and_eq_true_iff.mp q).2

def sp__law_written : Sp := fun vs H Q _ => ∃ n : Nat, vs = [.int n] ∧ n < 65536 ∧ ∀ H', Same H H' → Q (.str (mtx n)) H'
def PW4 : List Nat := [4096, 256, 16, 1]

theorem ok__law_written {P : Program} {w : World} {K : PySem.W.Frag} {mg : Str → Option Value} {base : Heap} {c : Ad} {f : Addr} {fd : FuncData} (T : Txt K mg c) (F : Fun K "_law_written" "_law_written" s__law_written f fd)
     : FnG P w K mg base CX0 1 f fd ps__law_written (sp__law_written) := by
  refine Fun.okG F sc__law_written (fun vs H Q E h => ?_) (fun cdv A outer s H vs Q E hgd hr h => ?_)
  · obtain ⟨n, rfl, hn, k⟩ := h
    rfl
  · obtain ⟨n, rfl, hn, k⟩ := h
    refine ⟨_, (pss_cons (ps_set (i := 1) sc__law_written.nd rfl (Or.inr rfl) pe_str)
      (pss_one (ps_ret (pe_joinK K pe_str (pe_lc (own := [("_law_power", 2)]) (g := gName 2) (tt := tYes) (by rfl) sc__law_written.nd (pi_tupK K (pe_tup (pa_cons pe_int (pa_cons pe_int (pa_cons pe_int (pa_cons pe_int pa_nil)))))) (blkOk_by (own := [("_law_power", 2)]) (N := nm__law_written) (sc := defScope s__law_written) (by decide +kernel)) (fun _ _ _ _ _ => (pg_name (i := 2) sc__law_written.nd rfl (Or.inl rfl))) (fun _ _ _ _ _ => pts_nil) (fun _ _ _ _ _ => (pe_ix ix_str (pv 1) (pe_op op_mod (pe_op op_fdivN (pv 0) (pv 2)) pe_int) (fun _ _ => rfl)))))))), ?_⟩
    refine ⟨⟨_, rfl⟩, (by show 4 ≤ sizeLine; decide), fun t nt => ⟨t, rfl, ⟨_, SqT.of upd_same⟩, fun D nD => ?_⟩⟩
    have tD : ∀ {H'}, Same (upd H t (.tup (PW4.map fun p => V.int (p : Nat)))) H' → SqT K H' t (PW4.map fun p => V.int (p : Nat)) := fun s => SqT.of (s _ _ upd_same)
    refine lc_it walk_tup (fun i H' => Same (upd H t (.tup (PW4.map fun p => V.int (p : Nat)))) H' ∧ H' D = some (.lst ((PW4.take i).map fun p => V.str ⟨#[dg (n / p % 16)]⟩))) ⟨same_new nD, upd_same⟩ (fun _ _ _ h => tD h.1) ?_ ?_
    · rintro i x H1 H2 hi ⟨s1, e1⟩ ⟨rfl, hx⟩
      rw [List.getElem?_map] at hx
      obtain ⟨p, hp, rfl⟩ := Option.map_eq_some_iff.mp hx
      have p0 : 0 < p ∧ p < 5000 := by
        have : ∀ q ∈ PW4, 0 < q ∧ q < 5000 := by decide
        exact this p (List.mem_of_getElem? hp)
      refine ⟨rfl, _, rfl, _, rfl, _, rfl, _, _, rfl, rfl, ⟨by omega, by omega⟩, _, _, rfl, rfl, (by show (0 : Int) < 16; decide), _, _, dg (n / p % 16), rfl, rfl, (by decide +kernel), ?_, ?_⟩
      · show atI HXL _ = _
        rw [Int.fdiv_eq_ediv_of_nonneg _ (by omega), show (n : Int) / (p : Int) % 16 = ((n / p % 16 : Nat) : Int) by omega, atI_dg (by omega) (by omega), Int.toNat_natCast]
      · refine ⟨_, e1, ?_, same_mut s1 nD, ?_⟩
        · rw [List.length_map, List.length_take]
          exact size_lt (Nat.lt_of_le_of_lt (Nat.min_le_right _ _) (by show 4 < 16777216; decide))
        · rw [take_succ_map (fun p => V.str ⟨#[dg (n / p % 16)]⟩) hp]
          exact upd_same
    · rintro H1 ⟨s1, e1⟩
      refine ⟨_, D, PW4.map fun p => ⟨#[dg (n / p % 16)]⟩, rfl, rfl, .inl (SqL.of ?_), ?_, ?_⟩
      · rw [e1, List.map_map] <;> rfl
      · exact size_of (show (4 : Nat) ≤ 16777216 by decide)
      · rw [show (PW4.map fun p => (⟨#[dg (n / p % 16)]⟩ : Str)) = [⟨#[dg (n / 4096 % 16)]⟩, ⟨#[dg (n / 256 % 16)]⟩, ⟨#[dg (n / 16 % 16)]⟩, ⟨#[dg (n % 16)]⟩] by simp [PW4]]
        have e := mtx_join n
        exact e ▸ k _ ((same_new nt).trans s1)

def dueV (v : V) : V := match hexV v with
  | some n => .int (n : Int)
  | none => .non
def sp__law_due : Sp := fun vs H Q _ => ∃ v, vs = [v] ∧ ThN H v ∧ ∀ H', Same H H' → Q (dueV v) H'
theorem dp_signs {K : PySem.W.Frag} {H : Hp} : ∀ cs : List Nat, DpAll K H (cs.map fun c => V.str ⟨#[c]⟩) (cs.map fun c => PyData.str ⟨#[c]⟩)
  | [] => .nil
  | _ :: cs => .cons (.str _) (dp_signs cs)
theorem hex_fold : ∀ (l : List Nat) (i : Nat) {c : Nat}, l[i]? = some c → Hx.hexNum (l.take (i + 1)) = Hx.hexNum (l.take i) * 16 + Hx.hv c := fun l i c h => by
  unfold Hx.hexNum
  rw [List.take_add_one, h, List.foldl_append] <;> rfl
theorem sign_ne {c d : Nat} (h : d ≠ c) : eqV (.str ⟨#[d]⟩) (.str ⟨#[c]⟩) = false := by
  show ((⟨#[d]⟩ : Str) == (⟨#[c]⟩ : Str)) = false
  rw [beq_eq_false_iff_ne]
  intro e
  injection e with e
  injection e with e
  injection e with e
  exact h e

theorem ok__law_due {P : Program} {w : World} {K : PySem.W.Frag} {mg : Str → Option Value} {base : Heap} {c : Ad} {f : Addr} {fd : FuncData} (T : Txt K mg c) (F : Fun K "_law_due" "_law_due" s__law_due f fd)
     : FnG P w K mg base CX0 1 f fd ps__law_due (sp__law_due) := by
  refine Fun.okG F sc__law_due (fun vs H Q E h => ?_) (fun cdv A outer s H vs Q E hgd hr h => ?_)
  · obtain ⟨v, rfl, ⟨hv, hl⟩, k⟩ := h
    rfl
  · obtain ⟨v, rfl, ⟨hv, hl⟩, k⟩ := h
    refine ⟨_, (pss_cons (ps_set (i := 1) sc__law_due.nd rfl (Or.inr rfl) (pe_callTy (call_listS rfl) (by rfl) T.b_list (by decide +kernel) (pa_cons pe_str pa_nil)))
      (pss_cons (ps_if (PW.pt (pw_or (pt_not (pt_val (pe_callB (call_isiKK K) (by rfl) T.b_isinstance (by decide +kernel) (pa_cons (pv 0) (pa_cons (pe_bltn (v := .ty "str") rfl T.b_str (by decide +kernel) rfl) pa_nil))))) (pw_or (pt_cmpR op_ne (pe_callB call_len_str (by rfl) T.b_len (by decide +kernel) (pa_cons (pv 0) pa_nil)) pe_int (nomark _)) (pw_or1 (pt_cmpR (op_neDK K hr.units) (pe_lc (own := [("_law_sign", 2)]) (g := gName 2) (by rfl) sc__law_due.nd (pi_str (pv 0)) (blkOk_by (own := [("_law_sign", 2)]) (N := nm__law_due) (sc := defScope s__law_due) (by decide +kernel)) (fun _ _ _ _ _ => (pg_name (i := 2) sc__law_due.nd rfl (Or.inl rfl))) (fun _ _ _ _ _ => (pts_one (pt_cmpR (op_notIn_seqK K) (pv 2) (pv 1) (by rfl)))) (fun _ _ _ _ _ => (pv 2))) (pe_lst pa_nil) (nomark _))))))
      (pss_one (ps_ret pe_non))
      pss_nil)
      (pss_cons (ps_set (i := 3) sc__law_due.nd rfl (Or.inl rfl) pe_int)
      (pss_cons (ps_for PassesOwn.never rfl (pi_str (pv 0)) (pg_name (i := 2) sc__law_due.nd rfl (Or.inl rfl))
      (pss_one (ps_set (i := 3) sc__law_due.nd rfl (Or.inl rfl) (pe_op op_add (pe_op op_mul pe_int (pv 3)) (pe_bmK K PySem.F.plainAttrs_list PySem.F.slot_list_index PySem.F.type_list_index (mt_indexK K) (pv 1) (pa_cons (pv 2) pa_nil))))))
      (pss_one (ps_ret (pv 3))))))), ?_⟩
    obtain ⟨t1, ty1, k1⟩ := isi_of (K := K) hv "str" (by decide)
    refine ⟨_, rfl, (by decide), fun p np => ?_⟩
    have hv1 : Th (upd H p (.lst (HXL.map fun c => V.str ⟨#[c]⟩))) v := hv.mono (same_new np)
    have hp : ∀ {H'}, Same (upd H p (.lst (HXL.map fun c => V.str ⟨#[c]⟩))) H' → SqL K H' p (HXL.map fun c => V.str ⟨#[c]⟩) := fun s => SqL.of (s _ _ upd_same)
    have sp0 : Same H (upd H p (.lst (HXL.map fun c => V.str ⟨#[c]⟩))) := same_new np
    generalize hH0 : upd H p (.lst (HXL.map fun c => V.str ⟨#[c]⟩)) = H0 at hv1 hp sp0
    rw [show upd H p (.lst ((Str.ofString "0123456789abcdef").cps.toList.map fun c => V.str ⟨#[c]⟩)) = H0 from hH0]
    obtain ⟨t1, ty1, k1⟩ := isi_of (K := K) hv1 "str" (by decide)
    have bad : hexV v = none → ∀ H1, Same H0 H1 → Q .non H1 := fun e H1 s1 => by
      have := k H1 (sp0.trans s1)
      unfold dueV at this
      rw [e] at this
      exact this
    refine ⟨_, rfl, _, _, t1, _, _, rfl, .ty _, ty1, k1, _, rfl, ?_⟩
    refine ite2 (fun h1 => ?_) (fun h1 => ?_)
    · exact bad (by cases v <;> first | rfl | exact absurd h1 Bool.false_ne_true) H0 (Same.refl _)
    obtain ⟨z, rfl⟩ := isK_str (v := v) (by cases hh : isK "str" v with | true => rfl | false => exact absurd (by rw [hh]; rfl) h1)
    have hx := hl z rfl
    have hz := hx.len
    refine ⟨_, rfl, _, rfl, hx.size, rfl, _, rfl, ?_⟩
    refine ite2 (fun h2 => ?_) (fun h2 => ?_)
    · refine bad ?_ H0 (Same.refl _)
      show (if hexS z = true then _ else _) = none
      rw [if_neg]
      intro q
      have q1 := of_decide_eq_true (Bool.and_eq_true_iff.mp q).1
      rw [decide_eq_true (show V.int (z.length : Int) = V.int 4 by rw [q1] <;> rfl)] at h2
      exact absurd h2 (by decide)
    have h4 : z.length = 4 := by
      by_cases e : V.int (z.length : Int) = V.int 4
      · injection e with e
        omega
      · rw [decide_eq_false e] at h2
        exact absurd rfl h2
    refine ⟨_, rfl, z, rfl, fun D nD => ?_⟩
    refine lc_it walk_str (fun i H' => Same H0 H' ∧ H' D = some (.lst (((z.cps.toList.take i).filter fun c => !decide (c ∈ HXL)).map fun c => V.str ⟨#[c]⟩))) ⟨same_new nD, upd_same⟩ (fun _ _ _ _ => trivial) ?_ ?_
    · rintro i x H1 H2 hi ⟨s1, e1⟩ ⟨rfl, c, hc, rfl⟩
      have hc' : z.cps.toList[i]? = some c := by rw [Array.getElem?_toList]; exact hc
      refine ⟨rfl, ?_⟩
      refine ⟨_, rfl, _, rfl, p, _, rfl, .inl (hp s1), rfl, flat_signs _, !decide (c ∈ HXL), ?_, ?_⟩
      · show V.bl (!inV _ _) = _
        rw [in_signs]
      · refine ite2 (fun h4 => ?_) (fun h4 => ?_)
        · refine ⟨_, rfl, _, e1, ?_, same_mut s1 nD, ?_⟩
          · rw [List.length_map]
            refine Nat.lt_of_le_of_lt (List.length_filter_le _ _) ?_
            rw [List.length_take, Array.length_toList]
            exact Nat.lt_of_le_of_lt (Nat.min_le_right _ _) (Nat.lt_of_le_of_lt hz (by decide))
          · rw [take_succ_filter _ hc', if_pos h4, List.map_append]
            exact upd_same
        · refine ⟨s1, ?_⟩
          rw [take_succ_filter _ hc', if_neg h4, List.append_nil]
          exact e1
    · rintro H1 ⟨s1, e1⟩
      refine ⟨Nat.zero_le _, fun q nq => ?_⟩
      refine ⟨.list ((z.cps.toList.filter fun c => !decide (c ∈ HXL)).map fun c => PyData.str ⟨#[c]⟩), .list [], .lst (SqL.of (same_new nq _ _ ?_)) (dp_signs _), .lst (SqL.of upd_same) .nil, Fine.shaped (k := 1) (Fine.list fun d hd => ?_), rfl, _, rfl, ?_⟩
      · rw [e1, List.take_of_length_le (by rw [Array.length_toList]; exact Nat.le_refl _)]
      · obtain ⟨c, hc, rfl⟩ := List.mem_map.mp hd
        exact Fine.str (Tx.sign (hx.ok c (List.mem_filter.mp hc).1)).strOk
      rw [eqv_nil, List.isEmpty_map]
      have s2 := s1.trans (same_new (o := .lst []) nq)
      generalize hHq : upd H1 q (.lst []) = H2 at s2
      by_cases hh : z.cps.toList.all (fun c => decide (c ∈ HXL)) = true
      · have ee : (z.cps.toList.filter fun c => !decide (c ∈ HXL)) = [] := by
          rw [List.filter_eq_nil_iff]
          intro c hc
          rw [List.all_eq_true.mp hh c hc]
          decide
        rw [ee]
        dsimp only [List.isEmpty, Bool.not_true]
        rw [if_neg (by decide)]
        have e : hexV (.str z) = some (Hx.hexNum z.cps.toList) := by
          show (if hexS z = true then _ else _) = _
          rw [if_pos]
          exact Bool.and_eq_true_iff.mpr ⟨decide_eq_true h4, hh⟩
        refine asgc_step ?_
        refine ⟨_, rfl, _, rfl, for_it walk_str (fun i σ H' => ∃ t : Option V, σ = [some (.str z), some (.ref p), t, some (.int ((Hx.hexNum (z.cps.toList.take i) : Nat) : Int))] ∧ Same H0 H') ⟨_, rfl, s2⟩ (fun _ _ _ _ _ => trivial) ?_ ?_⟩
        · rintro i x σ H3 H3' hi ⟨t, rfl, s3⟩ ⟨rfl, c, hc, rfl⟩
          have hc' : z.cps.toList[i]? = some c := by rw [Array.getElem?_toList]; exact hc
          have cm : c ∈ HXL := of_decide_eq_true (List.all_eq_true.mp hh c (List.mem_of_getElem? hc'))
          obtain ⟨j, j1, j2, j3⟩ := hex_ix cm
          refine ⟨_, rfl, _, _, rfl, rfl, .inl ⟨by decide, by decide⟩, ?_⟩
          refine ⟨_, rfl, .inl ⟨rfl, _, hp s3⟩, _, rfl, p, _, _, j, .str ⟨#[c]⟩, rfl, rfl, hp s3, rfl, flat_signs _, ?_, ?_, ?_, _, _, rfl, rfl, ?_⟩
          · rw [List.getElem?_map, j1] <;> rfl
          · show ((⟨#[c]⟩ : Str) == (⟨#[c]⟩ : Str)) = true
            exact beq_self_eq_true _
          · intro m z' hm hz'
            rw [List.getElem?_map] at hz'
            obtain ⟨d, hd, rfl⟩ := Option.map_eq_some_iff.mp hz'
            exact sign_ne (j3 m d hm hd)
          · refine ⟨some (.str ⟨#[c]⟩), ?_, s3⟩
            rw [hex_fold _ _ hc', j2, Nat.mul_comm, Int.natCast_add, Int.natCast_mul] <;> rfl
        · rintro σ H3 ⟨t, rfl, s3⟩
          refine ⟨_, rfl, ?_⟩
          rw [List.take_of_length_le (by rw [Array.length_toList]; exact Nat.le_refl _)]
          have := k H3 (sp0.trans s3)
          unfold dueV at this
          rw [e] at this
          exact this
      · have ee : (z.cps.toList.filter fun c => !decide (c ∈ HXL)).isEmpty = false := by
          rw [List.isEmpty_eq_false_iff]
          intro q
          rw [List.filter_eq_nil_iff] at q
          refine hh (List.all_eq_true.mpr fun c hc => ?_)
          have := q c hc
          simpa using this
        rw [ee]
        refine bad ?_ H2 s2
        show (if hexS z = true then _ else _) = none
        rw [if_neg]
        intro q
        exact hh (Bool.and_eq_true_iff.mp q).2

theorem Ax.lit {n : Nat} (x : Str) (h1 : x.length ≤ n) (h2 : (x.cps.toList.all fun c => decide (c < 128)) = true) : Ax n x := ⟨⟨h1, fun c hc => by have := of_decide_eq_true (List.all_eq_true.mp h2 c hc); omega⟩, fun c hc => of_decide_eq_true (List.all_eq_true.mp h2 c hc)⟩
def SGN : Str := Txt.mul (Str.ofString "0123456789abcdefABCDEFxX_+-. ") 4 ++ SIG ++ Str.ofString "\n"
theorem sgn_ax : Ax 211 SGN := Ax.lit _ (by decide +kernel) (by decide +kernel)
theorem sgn_len : SGN.length = 211 := by decide +kernel
theorem Ax.cut {n : Nat} {x : Str} (h : Ax n x) (lo hi : Option Int) : Ax n (cutS x lo hi) := ⟨h.tx.cut lo hi, fun c hc => h.lo c (by
  unfold cutS at hc
  exact List.mem_of_mem_drop (List.mem_of_mem_take hc))⟩
theorem Ax.rev {n : Nat} {x : Str} (h : Ax n x) : Ax n (revS x) := ⟨h.tx.rev, fun c hc => h.lo c (by
  have : c ∈ x.cps.toList.reverse := hc
  exact List.mem_reverse.mp this)⟩
theorem upper_list : ∀ l : List Nat, (∀ c ∈ l, c < 128) → (Txt.upper ⟨l.toArray⟩).cps.toList = l.map fun c => if 97 ≤ c ∧ c ≤ 122 then c - 32 else c
  | [], _ => by decide +kernel
  | c :: l, h => by
    have e : (⟨(c :: l).toArray⟩ : Str) = (⟨#[c]⟩ : Str) ++ (⟨l.toArray⟩ : Str) := PySem.Str.ext' (by show _ = #[c] ++ l.toArray; simp)
    rw [e, PySem.W.KOpn.upper_app, PySem.W.KOpn.upper_one (h c List.mem_cons_self), toList_add, upper_list l fun d hd => h d (List.mem_cons_of_mem _ hd)]
    rfl
theorem Ax.upper {n : Nat} {x : Str} (h : Ax n x) : Ax n (Txt.upper x) := by
  have e : (Txt.upper x).cps.toList = x.cps.toList.map fun c => if 97 ≤ c ∧ c ≤ 122 then c - 32 else c := upper_list x.cps.toList h.lo
  have lo : ∀ c ∈ (Txt.upper x).cps.toList, c < 128 := fun c hc => by
    rw [e] at hc
    obtain ⟨d, hd, rfl⟩ := List.mem_map.mp hc
    have := h.lo d hd
    split <;> omega
  refine ⟨⟨?_, fun c hc => by have := lo c hc; omega⟩, lo⟩
  show (Txt.upper x).cps.size ≤ n
  rw [← Array.length_toList, e, List.length_map, Array.length_toList]
  exact h.tx.len
def sp__law_bent (K : PySem.W.Frag) : Sp := fun vs H Q _ => ∃ (G : Hp) (tp : Addr) (n m : Nat) (x : Str), vs = [.ref tp, .str x] ∧ Tape K G H tp n ∧ n < 2 ^ 50 ∧ Ax m x ∧ m ≤ 50 ∧
  ∀ y H', Ax (2 * m + 2) y → But tp H H' → Tape K G H' tp (n + 3) → Q (.str y) H'

theorem ok__law_bent {P : Program} {w : World} {K : PySem.W.Frag} {mg : Str → Option Value} {base : Heap} {c : Ad} {f : Addr} {fd : FuncData} (T : Txt K mg c) (F : Fun K "_law_bent" "_law_bent" s__law_bent f fd)
    {f__law_draw : Addr} {fd__law_draw : FuncData} (O__law_draw : OkG P w K mg base CX0 1 "_law_draw" ps__law_draw (sp__law_draw K) f__law_draw fd__law_draw)
    (B__law_draw : Binds K fd__law_draw ps__law_draw [])
    {f__law_signs : Addr} {fd__law_signs : FuncData} (O__law_signs : OkG P w K mg base CX0 1 "_law_signs" ps__law_signs (sp__law_signs) f__law_signs fd__law_signs)
    (B__law_signs : Binds K fd__law_signs ps__law_signs []) : FnG P w K mg base CX0 2 f fd ps__law_bent (sp__law_bent K) := by
  refine Fun.okG F sc__law_bent (fun vs H Q E h => ?_) (fun cdv A outer s H vs Q E hgd hr h => ?_)
  · obtain ⟨G, tp, n, m, x, rfl, T0, hn, hx, hm, k⟩ := h
    rfl
  · obtain ⟨G, tp, n, m, x, rfl, T0, hn, hx, hm, k⟩ := h
    refine ⟨_, (pss_cons (ps_set (i := 2) sc__law_bent.nd rfl (Or.inl rfl) (pe_op op_add_str (pe_op op_add_str (pe_op op_mulS pe_str pe_int) (pe_c0 (dvs := []) O__law_signs ⟨[], .nil, B__law_signs⟩ hgd (hr.mono (by decide)) pass0At)) pe_str))
      (pss_cons (ps_par (i := 3) (j := 4) (by rfl) sc__law_bent.nd rfl rfl (by decide) rfl rfl (pa_cons (pe_c (dvs := []) O__law_draw ⟨[], .nil, B__law_draw⟩ hgd (hr.mono (by decide)) pass0At (pa_cons (pv 0) (pa_cons (pe_op op_add (pe_callB call_len_str (by rfl) T.b_len (by decide +kernel) (pa_cons (pv 1) pa_nil)) pe_int) pa_nil))) (pa_cons (pe_ix ix_str (pv 2) (pe_c (dvs := []) O__law_draw ⟨[], .nil, B__law_draw⟩ hgd (hr.mono (by decide)) pass0At (pa_cons (pv 0) (pa_cons (pe_callB call_len_str (by rfl) T.b_len (by decide +kernel) (pa_cons (pv 2) pa_nil)) pa_nil))) (fun _ _ => rfl)) pa_nil)) (by rfl))
      (pss_cons (ps_set (i := 5) sc__law_bent.nd rfl (Or.inl rfl) (pe_lst (pa_cons (pe_op op_add_str (pe_op op_add_str (pe_slice sl_str (pv 1) po_none (po_some (pv 3))) (pv 4)) (pe_slice sl_str (pv 1) (po_some (pv 3)) po_none)) (pa_cons (pe_op op_add_str (pe_slice sl_str (pv 1) po_none (po_some (pv 3))) (pe_slice sl_str (pv 1) (po_some (pe_op op_add (pv 3) pe_int)) po_none)) (pa_cons (pe_upper (pv 1)) (pa_cons (pe_op op_add_str (pv 1) pe_str) pa_nil))))))
      (pss_cons (ps_set (i := 5) sc__law_bent.nd rfl (Or.inl rfl) (pe_op op_cat (pv 5) (pe_op op_rep (pe_lst (pa_cons (pe_op op_add_str (pe_op op_add_str (pe_slice sl_str (pv 1) po_none (po_some (pv 3))) (pv 4)) (pe_slice sl_str (pv 1) (po_some (pe_op op_add (pv 3) pe_int)) po_none)) pa_nil)) pe_int)))
      (pss_cons (ps_set (i := 5) sc__law_bent.nd rfl (Or.inl rfl) (pe_op op_cat (pv 5) (pe_lst (pa_cons (pe_op op_add_str pe_str (pe_slice sl_str (pv 1) (po_some pe_int) po_none)) (pa_cons (pe_revS (pv 1)) pa_nil)))))
      (pss_one (ps_ret (pe_ix (ix_listK K) (pv 5) (pe_c (dvs := []) O__law_draw ⟨[], .nil, B__law_draw⟩ hgd (hr.mono (by decide)) pass0At (pa_cons (pv 0) (pa_cons pe_int pa_nil))) (fun _ _ => rfl))))))))), ?_⟩
    have tx := hx.tx
    have xl := tx.len
    refine ⟨_, _, rfl, rfl, mulOk_of (by decide) (by decide) (by decide +kernel), rfl, _, _, rfl, rfl, (by decide +kernel), _, _, rfl, rfl, (by decide +kernel), ?_⟩
    dsimp only
    rw [show Txt.mul (Str.ofString "0123456789abcdefABCDEFxX_+-. ") 4 ++ SIG ++ Str.ofString "\n" = SGN from rfl]
    refine ⟨_, rfl, _, rfl, _, rfl, tx.size, _, _, rfl, rfl, G, tp, n, _, rfl, T0, by omega, by omega, by omega, fun r1 H1 a1 b1 bt1 T1 => ?_⟩
    refine ⟨_, rfl, _, rfl, _, rfl, _, rfl, sgn_ax.tx.size, G, tp, _, _, rfl, T1, by rw [sgn_len]; decide, by rw [sgn_len]; decide, by omega, fun r2 H2 a2 b2 bt2 T2 => ?_⟩
    rw [sgn_len] at b2
    obtain ⟨cc, hcc, hcm⟩ := atI_some (xs := SGN.cps.toList) a2 (by rw [Array.length_toList]; show r2 < ((SGN.length : Nat) : Int); rw [sgn_len]; exact b2)
    have hs : Ax 1 (⟨#[cc]⟩ : Str) := Ax.sign (sgn_ax.lo cc hcm)
    refine ⟨_, _, cc, rfl, rfl, sgn_ax.tx.size, hcc, _, _, rfl, ?_⟩
    have c1 := hx.cut none (some r1)
    have c2 := hx.cut (some r1) none
    have c3 := hx.cut (some (r1 + 1)) none
    have c4 := hx.cut (some 2) none
    have nl : Ax 1 (Str.ofString "\n") := Ax.lit _ (by decide) (by decide +kernel)
    have ox : Ax 2 (Str.ofString "0x") := Ax.lit _ (by decide) (by decide +kernel)
    have w1 := (c1.add hs).add c2
    have w2 := c1.add c3
    have w3 := hx.upper
    have w4 := hx.add nl
    have w5 := (c1.add hs).add c3
    have w6 := ox.add c4
    have w7 := hx.rev
    refine ⟨_, rfl, _, rfl, _, rfl, _, rfl, tx.size, _, rfl, _, _, rfl, rfl, c1.tx.fit hs.tx, _, rfl, _, rfl, _, rfl, _, rfl, tx.size, _, _, rfl, rfl, (c1.add hs).tx.fit c2.tx, _, rfl, _, rfl, _, rfl, _, rfl, tx.size, _, rfl, _, rfl, _, _, rfl, rfl, _, rfl, _, rfl, tx.size, _, _, rfl, rfl, c1.tx.fit c3.tx, _, rfl, ⟨_, rfl⟩, _, rfl, rfl, (by omega), _, rfl, _, _, rfl, rfl, tx.fit nl.tx, (by show 4 ≤ sizeLine; decide), fun p1 n1 => ?_⟩
    refine ⟨_, rfl, _, rfl, _, rfl, _, rfl, _, rfl, tx.size, _, rfl, _, _, rfl, rfl, c1.tx.fit hs.tx, _, rfl, _, rfl, _, _, rfl, rfl, _, rfl, _, rfl, tx.size, _, _, rfl, rfl, (c1.add hs).tx.fit c3.tx, (by show 1 ≤ sizeLine; decide), fun p2 n2 => ?_⟩
    refine ⟨p2, _, _, rfl, rfl, upd_same, (by decide), (by decide), (by show 1 * 2 ≤ sizeLine; decide), fun p3 n3 => ?_⟩
    refine ⟨p1, p3, _, _, rfl, rfl, same_new n3 _ _ (same_new n2 _ _ upd_same), upd_same, (by show 4 + 2 ≤ sizeLine; decide), fun p4 n4 => ?_⟩
    refine ⟨_, rfl, _, rfl, _, rfl, _, rfl, tx.size, _, _, rfl, rfl, ox.tx.fit c4.tx, _, rfl, _, rfl, tx.size, (by show 2 ≤ sizeLine; decide), fun p5 n5 => ?_⟩
    refine ⟨p4, p5, _, _, rfl, rfl, same_new n5 _ _ upd_same, upd_same, (by show 6 + 2 ≤ sizeLine; decide), fun p6 n6 => ?_⟩
    refine ⟨_, rfl, _, rfl, G, tp, _, _, rfl, (((((T2.new n1).new n2).new n3).new n4).new n5).new n6, by decide, by decide, by omega, fun r3 H3 a3 b3 bt4 T4 => ?_⟩
    have ne6 : p6 ≠ tp := (((((T2.new n1).new n2).new n3).new n4).new n5).ne n6
    have h6 := bt4 p6 _ ne6 upd_same
    have fin : ∀ y, Ax (2 * m + 2) y → Q (.str y) H3 := fun y ay => k y _ ay (bt1.trans (bt2.trans ((But.new n1).trans ((But.new n2).trans ((But.new n3).trans ((But.new n4).trans ((But.new n5).trans ((But.new n6).trans bt4)))))))) T4
    have h8 : r3 = 0 ∨ r3 = 1 ∨ r3 = 2 ∨ r3 = 3 ∨ r3 = 4 ∨ r3 = 5 ∨ r3 = 6 ∨ r3 = 7 := by omega
    rcases h8 with rfl | rfl | rfl | rfl | rfl | rfl | rfl | rfl
    · exact ⟨p6, _, _, _, rfl, rfl, SqL.of h6, rfl, fin _ (w1.mono (by omega))⟩
    · exact ⟨p6, _, _, _, rfl, rfl, SqL.of h6, rfl, fin _ (w2.mono (by omega))⟩
    · exact ⟨p6, _, _, _, rfl, rfl, SqL.of h6, rfl, fin _ (w3.mono (by omega))⟩
    · exact ⟨p6, _, _, _, rfl, rfl, SqL.of h6, rfl, fin _ (w4.mono (by omega))⟩
    · exact ⟨p6, _, _, _, rfl, rfl, SqL.of h6, rfl, fin _ (w5.mono (by omega))⟩
    · exact ⟨p6, _, _, _, rfl, rfl, SqL.of h6, rfl, fin _ (w5.mono (by omega))⟩
    · exact ⟨p6, _, _, _, rfl, rfl, SqL.of h6, rfl, fin _ (w6.mono (by omega))⟩
    · exact ⟨p6, _, _, _, rfl, rfl, SqL.of h6, rfl, fin _ (w7.mono (by omega))⟩

/-- what is said: told a number, or refused -/
def saidV (v : V) : List V := match hexV v with
  | some n => [.str (Str.ofString "told"), .int (n : Int)]
  | none => [.str (Str.ofString "refused"), .int 0]
def sp__law_said : Sp := fun vs H Q _ => ∃ v, vs = [v] ∧ ThN H v ∧ ∀ p H1, Same H H1 → H1 p = none → Q (.ref p) (upd H1 p (.tup (saidV v)))

theorem ok__law_said {P : Program} {w : World} {K : PySem.W.Frag} {mg : Str → Option Value} {base : Heap} {c : Ad} {f : Addr} {fd : FuncData} (T : Txt K mg c) (F : Fun K "_law_said" "_law_said" s__law_said f fd)
    {f_mark_by : Addr} {fd_mark_by : FuncData} (O_mark_by : OkG P w K mg base (L2.CX P w) 4 "mark_by" ps_mark_by (sp_mark_by c) f_mark_by fd_mark_by)
    (KB_mark_by_0_text : KB K fd_mark_by ps_mark_by 0 ["text"] (fun _ zs => zs)) : FnG P w K mg base CX0 5 f fd ps__law_said (sp__law_said) := by
  refine Fun.okG F sc__law_said (fun vs H Q E h => ?_) (fun cdv A outer s H vs Q E hgd hr h => ?_)
  · obtain ⟨v, rfl, hv, k⟩ := h
    rfl
  · obtain ⟨v, rfl, hv, k⟩ := h
    refine ⟨_, (pss_cons (ps_asg (pe_tup (pa_cons pe_non (pa_cons pe_non pa_nil))) (pg_tupK K (by rfl) (pgs_cons (pg_name (i := 1) sc__law_said.nd rfl (Or.inl rfl)) (pgs_cons (pg_name (i := 2) sc__law_said.nd rfl (Or.inl rfl)) pgs_nil))))
      (pss_cons (ps_try_keep (i := 3) rfl rfl rfl sc__law_said.nd rfl rfl ⟨rfl, by decide, .inl T.g_NightError⟩ takes0
      (fun W pn xe tk po => (pss_one (ps_set (i := 1) sc__law_said.nd rfl (Or.inl rfl) (pe_ck0 O_mark_by KB_mark_by_0_text hgd (hr.mono (by decide)) (passAt tk) (pk_cons (pv 0) pk_nil)))))
      (fun _ _ _ _ _ _ _ => (pss_one (ps_set (i := 2) sc__law_said.nd rfl (Or.inl rfl) (pv 3)))))
      (pss_cons (ps_if (pt_cmpR op_isN (pv 2) pe_non (nomark _))
      (pss_one (ps_ret (pe_tup (pa_cons pe_str (pa_cons (pv 1) pa_nil)))))
      pss_nil)
      (pss_cons (ps_if (PW.pt (pw_or (pt_val (pe_callB (call_isXT K) (by rfl) T.b_isinstance (by decide +kernel) (pa_cons (pv 2) (pa_cons (pe_tup (pa_cons (pe_glob (v := .ref c.NoCopy) rfl T.g_NoCopy rfl) (pa_cons (pe_glob (v := .ref c.NoDeed) rfl T.g_NoDeed rfl) (pa_cons (pe_glob (v := .ref c.NoFit) rfl T.g_NoFit rfl) (pa_cons (pe_glob (v := .ref c.NoHour) rfl T.g_NoHour rfl) (pa_cons (pe_glob (v := .ref c.NoRoom) rfl T.g_NoRoom rfl) (pa_cons (pe_glob (v := .ref c.NoRow) rfl T.g_NoRow rfl) (pa_cons (pe_glob (v := .ref c.Unlike) rfl T.g_Unlike rfl) pa_nil)))))))) pa_nil)))) (pw_or1 (pt_not (pt_val (pe_callB (call_isX K) (by rfl) T.b_isinstance (by decide +kernel) (pa_cons (pv 2) (pa_cons (pe_bltn (v := .ty "ValueError") rfl T.b_ValueError (by decide +kernel) rfl) pa_nil))))))))
      (pss_one (ps_ret (pe_tup (pa_cons pe_str pa_nil))))
      pss_nil)
      (pss_one (ps_ret (pe_ifExp (pt_val (pe_callB (call_isX K) (by rfl) T.b_isinstance (by decide +kernel) (pa_cons (pv 2) (pa_cons (pe_glob (v := .ref c.NoText) rfl T.g_NoText rfl) pa_nil)))) (pe_tup (pa_cons pe_str (pa_cons (pe_fx K (pv 2)) pa_nil))) (pe_tup (pa_cons pe_str pa_nil))))))))), ?_⟩
    refine ⟨(by show 2 ≤ sizeLine; decide), fun t nt => ⟨t, _, rfl, SqT.of upd_same, rfl, _, _, rfl, _, _, rfl, rfl, ?_⟩⟩
    dsimp only
    refine ⟨_, rfl, rfl, rfl, v, rfl, hv.mono (same_new nt), fun n H' e s' => ?_, fun e d H1 s1 nd => ?_⟩
    · refine ⟨_, rfl, rfl, _, rfl, ?_⟩
      refine ⟨_, rfl, (by show 2 ≤ sizeLine; decide), fun p np => ?_⟩
      have := k p H' ((same_new nt).trans s') np
      unfold saidV at this
      rw [e] at this
      exact this
    refine ⟨true, T.exm_NoText_NightError, fun _ a oe vs na z dt => ?_, fun q => nomatch q⟩
    have kp : Kept (upd (upd H1 d (.xd [("row", .int 0)])) a (exk a oe)) a c.NoText (some d) [("row", .int 0)] := Kept.of na z dt (fun dd e => by cases e; exact upd_same)
    have s2 : Same H (upd (upd H1 d (.xd [("row", .int 0)])) a (exk a oe)) := ((same_new nt).trans s1).trans ((same_new nd).trans (same_new na))
    generalize hH2 : upd (upd H1 d (.xd [("row", .int 0)])) a (exk a oe) = H2 at kp s2
    refine ⟨_, rfl, ?_⟩
    dsimp only [endsK, gName]
    rw [hH2]
    refine ⟨_, rfl, rfl, _, rfl, ?_⟩
    refine ⟨_, rfl, (by show 7 ≤ sizeLine; decide), fun tp ntp => ?_⟩
    have kp3 := kp.mono (same_new (o := .tup [.ref c.NoCopy, .ref c.NoDeed, .ref c.NoFit, .ref c.NoHour, .ref c.NoRoom, .ref c.NoRow, .ref c.Unlike]) ntp)
    refine ⟨a, c.NoText, tp, some d, _, _, _, false, rfl, kp3, T.exc_NoText, upd_same, .cons (.own _) (.cons (.own _) (.cons (.own _) (.cons (.own _) (.cons (.own _) (.cons (.own _) (.cons (.own _) .nil)))))), ?_, _, rfl, ?_⟩
    · unfold PySem.W.kitAny PySem.W.kitAny PySem.W.kitAny PySem.W.kitAny PySem.W.kitAny PySem.W.kitAny PySem.W.kitAny PySem.W.kitAny
      rw [T.kit_NoText_NoCopy, T.kit_NoText_NoDeed, T.kit_NoText_NoFit, T.kit_NoText_NoHour, T.kit_NoText_NoRoom, T.kit_NoText_NoRow, T.kit_NoText_Unlike]
    refine ⟨_, rfl, a, c.NoText, some d, _, _, _, true, rfl, kp3, T.exc_NoText, .ty _, T.kit_NoText_ValueError, _, rfl, ?_⟩
    refine ⟨_, rfl, a, c.NoText, some d, _, _, _, true, rfl, kp3, T.exc_NoText, .own _, T.kit_NoText_NoText, _, rfl, ?_⟩
    refine ⟨_, rfl, a, c.NoText, d, _, _, rfl, kp3, T.exc_NoText, T.no_NoText_row, rfl, (by show 2 ≤ sizeLine; decide), fun p np => ?_⟩
    have := k p _ (s2.trans (same_new ntp)) np
    unfold saidV at this
    rw [e] at this
    exact this

theorem two_ok {x : Str} {n : Int} (hx : Tx 100 x) (hn : n.natAbs < 10 ^ 12) : PyData.showable (.tuple [.str x, .int n]) = true ∧ SeqAt.shaped (.tuple [.str x, .int n]) = true ∧ (PyData.shown (.tuple [.str x, .int n])).length ≤ sizeLine := by
  have f : Fine 1 (.tuple [.str x, .int n]) := Fine.tuple fun d hd => by
    simp only [List.mem_cons, List.not_mem_nil, or_false] at hd
    rcases hd with rfl | rfl
    · exact Fine.str hx.strOk
    · exact Fine.int n
  have hi : PyData.intsShort 13 (.tuple [.str x, .int n]) = true := by
    have := (Tx.num (k := 12) (by decide) hn).len
    have h2 : (PyData.shown (.int n)).length ≤ 13 := this
    simp only [PyData.intsShort, PyData.intsShortAll, Bool.true_and, Bool.and_true, decide_eq_true_eq]
    exact h2
  have hl := PyData.shown_le 13 (by decide) _ (PyData.leavesShort_of_canLay0 13 _ f.1 hi)
  refine ⟨?_, f.shaped, ?_⟩
  · simp only [PyData.showable, PyData.showableAll, Bool.true_and, Bool.and_true, decide_eq_true_eq]
    by_cases h0 : n.natAbs = 0
    · rw [h0]; decide
    · have := (Nat.log2_lt h0 (k := 40)).mpr (by omega)
      omega
  · refine size_of ?_
    have hxl : x.cps.size ≤ 100 := hx.len
    have hlg : (if (n == 0) = true then 0 else n.natAbs.log2 + 1) ≤ 50 := by
      split
      · omega
      · rename_i h0
        have h1 : n.natAbs ≠ 0 := by
          intro q
          exact h0 (by rw [beq_iff_eq]; omega)
        have := (Nat.log2_lt h1 (k := 40)).mpr (by omega)
        omega
    simp only [PyData.weight, PyData.weightAll] at hl
    omega
def saidD (v : V) : PyData := match hexV v with
  | some n => .tuple [.str (Str.ofString "told"), .int (n : Int)]
  | none => .tuple [.str (Str.ofString "refused"), .int 0]
theorem said_dp {K : PySem.W.Frag} {H : Hp} {p : Addr} {v : V} (h : H p = some (.tup (saidV v))) : Dp K H (.ref p) (saidD v) := by
  unfold saidV at h
  unfold saidD
  split at h <;> rename_i e
  · try rw [e]
    exact .tup (SqT.of h) (.cons (.str _) (.cons (.int _) .nil))
  · try rw [e]
    exact .tup (SqT.of h) (.cons (.str _) (.cons (.int _) .nil))
theorem hex_lt {v : V} {n : Nat} (h : hexV v = some n) : n < 10 ^ 11 := by
  cases v with
  | str x =>
    replace h : (if hexS x = true then some (Hx.hexNum x.cps.toList) else none) = some n := h
    by_cases hs : hexS x = true
    · rw [if_pos hs] at h
      cases h
      obtain ⟨h1, h2⟩ := Bool.and_eq_true_iff.mp hs
      have h4 : x.cps.toList.length = 4 := of_decide_eq_true h1
      have hd : ∀ c ∈ x.cps.toList, Hx.hv c < 16 := fun c hc => Hx.hv_lt (hex_is (of_decide_eq_true (List.all_eq_true.mp h2 c hc)))
      generalize x.cps.toList = l at h4 hd
      match l, h4 with
      | [a, b, c, d], _ =>
        have ha := hd a (by simp)
        have hb := hd b (by simp)
        have hc := hd c (by simp)
        have hd' := hd d (by simp)
        show ((((0 * 16 + Hx.hv a) * 16 + Hx.hv b) * 16 + Hx.hv c) * 16 + Hx.hv d) < _
        omega
    · rw [if_neg hs] at h
      cases h
  | _ => cases h
theorem said_ok (v : V) : PyData.showable (saidD v) = true ∧ SeqAt.shaped (saidD v) = true ∧ (PyData.shown (saidD v)).length ≤ sizeLine := by
  unfold saidD
  split
  · rename_i n e
    have := hex_lt e
    exact two_ok (Tx.lit _ (by decide)) (by omega)
  · exact two_ok (Tx.lit _ (by decide)) (by decide)
theorem pick3 {r1 r2 r3 r4 : Int} (a1 : 0 ≤ r1) (b1 : r1 < 65536) (a2 : 0 ≤ r2) (b2 : r2 < 20) (a3 : 0 ≤ r3) (b3 : r3 < 300) (a4 : 0 ≤ r4) (b4 : r4 < 3) :
    ∃ num : Nat, num < 65536 ∧ atI [V.int r1, V.int r2, V.int (65535 - r3)] r4 = some (.int (num : Int)) := by
  have h3 : r4 = 0 ∨ r4 = 1 ∨ r4 = 2 := by omega
  rcases h3 with rfl | rfl | rfl
  · exact ⟨r1.toNat, by omega, by rw [show ((r1.toNat : Nat) : Int) = r1 by omega] <;> rfl⟩
  · exact ⟨r2.toNat, by omega, by rw [show ((r2.toNat : Nat) : Int) = r2 by omega] <;> rfl⟩
  · exact ⟨(65535 - r3).toNat, by omega, by rw [show (((65535 - r3).toNat : Nat) : Int) = 65535 - r3 by omega] <;> rfl⟩
def things (tq lq dq : Addr) : List V := [.non, .int 0, .bl true, .int 40503, .ref tq, .ref lq, .ref dq, .str (Str.ofString ""), .str (Str.ofString "9e3"), .str (Str.ofString "09e37"), .str (Str.ofString " 9e3"), .str (Str.ofString "9E37")]
theorem ThN.no {H : Hp} {v : V} (h : Th H v) (e : ∀ x, v ≠ .str x) : ThN H v := ⟨h, fun x q => absurd q (e x)⟩
theorem things_all {H : Hp} {tq lq dq : Addr} {xs ys : List V} {kv : List (Key × V)} (h1 : H tq = some (.tup xs)) (h2 : H lq = some (.lst ys)) (h3 : H dq = some (.dK kv)) : ∀ x ∈ things tq lq dq, ThN H x ∧ hexV x = none := by
  intro x hx
  unfold things at hx
  simp only [List.mem_cons, List.not_mem_nil, or_false] at hx
  rcases hx with rfl | rfl | rfl | rfl | rfl | rfl | rfl | rfl | rfl | rfl | rfl | rfl
  · exact ⟨ThN.no (.inl rfl) (fun _ q => nomatch q), rfl⟩
  · exact ⟨ThN.no (.int _) (fun _ q => nomatch q), rfl⟩
  · exact ⟨ThN.no (.bl _) (fun _ q => nomatch q), rfl⟩
  · exact ⟨ThN.no (.int _) (fun _ q => nomatch q), rfl⟩
  · exact ⟨ThN.no (.tup h1) (fun _ q => nomatch q), rfl⟩
  · exact ⟨ThN.no (.lst h2) (fun _ q => nomatch q), rfl⟩
  · exact ⟨ThN.no (.dK h3) (fun _ q => nomatch q), rfl⟩
  all_goals exact ⟨ThN.str (Tx.lit (n := 9) _ (by decide)) (by decide), by decide +kernel⟩
def sp_law (K : PySem.W.Frag) (c : Ad) : Sp := spL K

theorem ok_law {P : Program} {w : World} {K : PySem.W.Frag} {mg : Str → Option Value} {base : Heap} {c : Ad} {f : Addr} {fd : FuncData} (T : Txt K mg c) (F : Fun K "law" "law" s_law f fd)
    {f__law_tape : Addr} {fd__law_tape : FuncData} (O__law_tape : OkG P w K mg base CX0 1 "_law_tape" ps__law_tape (sp__law_tape K) f__law_tape fd__law_tape)
    (B__law_tape : Binds K fd__law_tape ps__law_tape [])
    {f_mark_text : Addr} {fd_mark_text : FuncData} (O_mark_text : OkG P w K mg base CX0 1 "mark_text" ps_mark_text (sp_mark_text) f_mark_text fd_mark_text)
    (KB_mark_text_0_mark : KB K fd_mark_text ps_mark_text 0 ["mark"] (fun _ zs => zs))
    {f__law_bent : Addr} {fd__law_bent : FuncData} (O__law_bent : OkG P w K mg base CX0 2 "_law_bent" ps__law_bent (sp__law_bent K) f__law_bent fd__law_bent)
    (B__law_bent : Binds K fd__law_bent ps__law_bent [])
    {f__law_draw : Addr} {fd__law_draw : FuncData} (O__law_draw : OkG P w K mg base CX0 1 "_law_draw" ps__law_draw (sp__law_draw K) f__law_draw fd__law_draw)
    (B__law_draw : Binds K fd__law_draw ps__law_draw [])
    {f__law_written : Addr} {fd__law_written : FuncData} (O__law_written : OkG P w K mg base CX0 1 "_law_written" ps__law_written (sp__law_written) f__law_written fd__law_written)
    (B__law_written : Binds K fd__law_written ps__law_written [])
    {f__law_due : Addr} {fd__law_due : FuncData} (O__law_due : OkG P w K mg base CX0 1 "_law_due" ps__law_due (sp__law_due) f__law_due fd__law_due)
    (B__law_due : Binds K fd__law_due ps__law_due [])
    {f__law_said : Addr} {fd__law_said : FuncData} (O__law_said : OkG P w K mg base CX0 5 "_law_said" ps__law_said (sp__law_said) f__law_said fd__law_said)
    (B__law_said : Binds K fd__law_said ps__law_said []) : FnG P w K mg base CX0 6 f fd ps_law (sp_law K c) := by
  refine Fun.okG F sc_law (fun vs H Q E h => ?_) (fun cdv A outer s H vs Q E hgd hr h => ?_)
  · obtain ⟨a, ns, rfl, hS, hl, k⟩ := h
    rfl
  · obtain ⟨a, ns, rfl, hS, hl, k⟩ := h
    refine ⟨_, (pss_cons (ps_set (i := 1) sc_law.nd rfl (Or.inl rfl) (pe_c (dvs := []) O__law_tape ⟨[], .nil, B__law_tape⟩ hgd (hr.mono (by decide)) pass0At (pa_cons (pv 0) pa_nil)))
      (pss_cons (ps_for PassesOwn.never rfl (pi_range1 (by rfl) T.b_range (pa_cons pe_int pa_nil)) (pg_name (i := 2) sc_law.nd rfl (Or.inl rfl))
      (pss_cons (ps_set (i := 3) sc_law.nd rfl (Or.inl rfl) (pe_ix (ix_listK K) (pe_lst (pa_cons (pe_c (dvs := []) O__law_draw ⟨[], .nil, B__law_draw⟩ hgd (hr.mono (by decide)) pass0At (pa_cons (pv 1) (pa_cons pe_int pa_nil))) (pa_cons (pe_c (dvs := []) O__law_draw ⟨[], .nil, B__law_draw⟩ hgd (hr.mono (by decide)) pass0At (pa_cons (pv 1) (pa_cons pe_int pa_nil))) (pa_cons (pe_op op_sub pe_int (pe_c (dvs := []) O__law_draw ⟨[], .nil, B__law_draw⟩ hgd (hr.mono (by decide)) pass0At (pa_cons (pv 1) (pa_cons pe_int pa_nil)))) pa_nil)))) (pe_c (dvs := []) O__law_draw ⟨[], .nil, B__law_draw⟩ hgd (hr.mono (by decide)) pass0At (pa_cons (pv 1) (pa_cons pe_int pa_nil))) (fun _ _ => rfl)))
      (pss_cons (ps_set (i := 4) sc_law.nd rfl (Or.inl rfl) (pe_ck0 O_mark_text KB_mark_text_0_mark hgd (hr.mono (by decide)) pass0At (pk_cons (pv 3) pk_nil)))
      (pss_cons (ps_if (pt_cmpR op_ne (pv 4) (pe_c (dvs := []) O__law_written ⟨[], .nil, B__law_written⟩ hgd (hr.mono (by decide)) pass0At (pa_cons (pv 3) pa_nil)) (nomark _))
      (pss_one (ps_ret pe_bl))
      pss_nil)
      (pss_cons (ps_set (i := 5) sc_law.nd rfl (Or.inl rfl) (pe_c (dvs := []) O__law_bent ⟨[], .nil, B__law_bent⟩ hgd (hr.mono (by decide)) pass0At (pa_cons (pv 1) (pa_cons (pv 4) pa_nil))))
      (pss_one (ps_for PassesOwn.never rfl (pi_tupK K (pe_tup (pa_cons (pv 4) (pa_cons (pv 5) (pa_cons (pe_c (dvs := []) O__law_bent ⟨[], .nil, B__law_bent⟩ hgd (hr.mono (by decide)) pass0At (pa_cons (pv 1) (pa_cons (pv 5) pa_nil))) pa_nil))))) (pg_name (i := 6) sc_law.nd rfl (Or.inl rfl))
      (pss_cons (ps_set (i := 7) sc_law.nd rfl (Or.inl rfl) (pe_c (dvs := []) O__law_due ⟨[], .nil, B__law_due⟩ hgd (hr.mono (by decide)) pass0At (pa_cons (pv 6) pa_nil)))
      (pss_one (ps_if (pt_cmpR op_ne (pe_callB (call_reprD K hgd (un130 hr)) (by rfl) T.b_repr (by decide +kernel) (pa_cons (pe_c (dvs := []) O__law_said ⟨[], .nil, B__law_said⟩ hgd (hr.mono (by decide)) pass0At (pa_cons (pv 6) pa_nil)) pa_nil)) (pe_callB (call_reprD K hgd (un130 hr)) (by rfl) T.b_repr (by decide +kernel) (pa_cons (pe_ifExp (pt_cmpR op_isN (pv 7) pe_non (nomark _)) (pe_tup (pa_cons pe_str (pa_cons pe_int pa_nil))) (pe_tup (pa_cons pe_str (pa_cons (pv 7) pa_nil)))) pa_nil)) (nomark _))
      (pss_one (ps_ret pe_bl))
      pss_nil))))))))))
      (pss_cons (ps_for PassesOwn.never rfl (pi_tupK K (pe_tup (pa_cons pe_non (pa_cons pe_int (pa_cons pe_bl (pa_cons pe_int (pa_cons (pe_tup (pa_cons pe_str pa_nil)) (pa_cons (pe_lst (pa_cons pe_str (pa_cons pe_str (pa_cons pe_str (pa_cons pe_str pa_nil))))) (pa_cons pe_dnewK (pa_cons pe_str (pa_cons pe_str (pa_cons pe_str (pa_cons pe_str (pa_cons pe_str pa_nil)))))))))))))) (pg_name (i := 8) sc_law.nd rfl (Or.inl rfl))
      (pss_one (ps_if (pt_cmpR (op_neDK K hr.units) (pe_c (dvs := []) O__law_said ⟨[], .nil, B__law_said⟩ hgd (hr.mono (by decide)) pass0At (pa_cons (pv 8) pa_nil)) (pe_tup (pa_cons pe_str (pa_cons pe_int pa_nil))) (nomark _))
      (pss_one (ps_ret pe_bl))
      pss_nil)))
      (pss_one (ps_ret pe_bl))))), ?_⟩
    refine ⟨_, rfl, a, ns, rfl, hS, fun tp G0 H1 sG T0 => ?_⟩
    refine ⟨_, rfl, (by decide), (by decide), for_it (walk_range (lo := 0)) (fun i σ H' => ∃ (G : Hp) (t2 t3 t4 t5 t6 t7 : Option V), σ = [some (.ref a), some (.ref tp), t2, t3, t4, t5, t6, t7, none] ∧ Tape K G H' tp (i * 10)) ⟨G0, none, none, none, none, none, none, rfl, T0.mono (Nat.zero_le _)⟩ (fun _ _ _ _ _ => trivial) ?_ ?_⟩
    · rintro i x σ H2 H2' hi ⟨G, t2, t3, t4, t5, t6, t7, rfl, T1⟩ ⟨rfl, rfl⟩
      have hi' : i < 20 := hi
      refine ⟨_, rfl, G, tp, _, _, rfl, T1, by decide, by decide, by omega, fun r1 H3 a1 b1 bt1 T2 => ?_⟩
      refine ⟨_, rfl, G, tp, _, _, rfl, T2, by decide, by decide, by omega, fun r2 H4 a2 b2 bt2 T3 => ?_⟩
      refine ⟨_, rfl, G, tp, _, _, rfl, T3, by decide, by decide, by omega, fun r3 H5 a3 b3 bt3 T4 => ?_⟩
      refine ⟨_, _, rfl, rfl, (by show 3 ≤ sizeLine; decide), fun p np => ?_⟩
      refine ⟨_, rfl, G, tp, _, _, rfl, T4.new np, by decide, by decide, by omega, fun r4 H6 a4 b4 bt4 T5 => ?_⟩
      obtain ⟨num, hn, hat⟩ := pick3 a1 b1 a2 b2 a3 b3 a4 b4
      refine ⟨p, _, _, _, rfl, rfl, SqL.of (bt4 p _ (T4.ne np) upd_same), hat, ?_⟩
      refine ⟨_, rfl, rfl, rfl, num, rfl, fun H7 s7 => ?_⟩
      refine ⟨_, rfl, _, rfl, num, rfl, hn, fun H8 s8 => ⟨rfl, _, rfl, ?_⟩⟩
      rw [decide_eq_true (rfl : V.str (mtx num) = V.str (mtx num))]
      refine ⟨_, rfl, _, rfl, G, tp, _, 4, mtx num, rfl, (T5.same s7).same s8, by omega, sfx_ax num 4, by decide, fun y1 H9 ay1 bt9 T9 => ?_⟩
      refine ⟨_, rfl, _, rfl, _, rfl, _, rfl, G, tp, _, 10, y1, rfl, T9, by omega, ay1, by decide, fun y2 H10 ay2 bt10 T10 => ?_⟩
      refine ⟨(by show 3 ≤ sizeLine; decide), fun q nq => ?_⟩
      have hq : ∀ {H'}, Same (upd H10 q (.tup [.str (mtx num), .str y1, .str y2])) H' → SqT K H' q [.str (mtx num), .str y1, .str y2] := fun s => SqT.of (s _ _ upd_same)
      refine ⟨q, rfl, ⟨_, hq (Same.refl _)⟩, for_it walk_tup (fun j σ H' => ∃ (t6 t7 : Option V), σ = [some (.ref a), some (.ref tp), some (.int (0 + (i : Int))), some (.int (num : Int)), some (.str (mtx num)), some (.str y1), t6, t7, none] ∧ Same (upd H10 q (.tup [.str (mtx num), .str y1, .str y2])) H') ⟨_, _, rfl, Same.refl _⟩ (fun _ _ _ _ h => by obtain ⟨_, _, _, s⟩ := h; exact hq s) ?_ ?_⟩
      · rintro j x σ H11 H11' hj ⟨t6, t7, rfl, s11⟩ ⟨rfl, hx⟩
        obtain ⟨z, rfl, hz⟩ : ∃ z, x = .str z ∧ Tx 100 z := by
          have hm := List.mem_of_getElem? hx
          simp only [List.mem_cons, List.not_mem_nil, or_false] at hm
          rcases hm with rfl | rfl | rfl
          · exact ⟨_, rfl, (sfx_ax num 4).tx.mono (by decide)⟩
          · exact ⟨_, rfl, ay1.tx.mono (by decide)⟩
          · exact ⟨_, rfl, ay2.tx.mono (by decide)⟩
        refine ⟨_, rfl, .str z, rfl, ThN.str hz (Nat.le_refl _), fun H12 s12 => ?_⟩
        refine ⟨_, rfl, .str z, rfl, ThN.str hz (Nat.le_refl _), fun p2 H13 s13 np2 => ?_⟩
        obtain ⟨o1, o2, o3⟩ := said_ok (.str z)
        refine ⟨p2, saidD (.str z), rfl, said_dp upd_same, o1, o2, o3, ?_⟩
        have st : ∀ H14, Same (upd H13 p2 (.tup (saidV (.str z)))) H14 → Same (upd H10 q (.tup [.str (mtx num), .str y1, .str y2])) H14 := fun H14 s14 => ((s11.trans s12).trans s13).trans ((same_new np2).trans s14)
        refine ⟨_, rfl, rfl, _, rfl, ?_⟩
        cases e : hexV (.str z) with
        | none =>
          have e1 : dueV (.str z) = .non := by unfold dueV; rw [e]
          rw [e1, decide_eq_true (rfl : V.non = V.non)]
          refine ⟨(by show 2 ≤ sizeLine; decide), fun p3 n3 => ?_⟩
          have e2 : saidV (.str z) = [.str (Str.ofString "refused"), .int 0] := by unfold saidV; rw [e]
          refine ⟨p3, saidD (.str z), rfl, said_dp (by rw [e2]; exact upd_same), o1, o2, o3, rfl, _, rfl, ?_⟩
          rw [decide_eq_true (rfl : V.str (saidD (.str z)).shown = V.str (saidD (.str z)).shown)]
          exact ⟨_, _, rfl, st _ (same_new n3)⟩
        | some n =>
          have e1 : dueV (.str z) = .int (n : Int) := by unfold dueV; rw [e]
          rw [e1]
          refine ⟨_, rfl, (by show 2 ≤ sizeLine; decide), fun p3 n3 => ?_⟩
          have e2 : saidV (.str z) = [.str (Str.ofString "told"), .int (n : Int)] := by unfold saidV; rw [e]
          refine ⟨p3, saidD (.str z), rfl, said_dp (by rw [e2]; exact upd_same), o1, o2, o3, rfl, _, rfl, ?_⟩
          rw [decide_eq_true (rfl : V.str (saidD (.str z)).shown = V.str (saidD (.str z)).shown)]
          exact ⟨_, _, rfl, st _ (same_new n3)⟩
      · rintro σ H11 ⟨t6, t7, rfl, s11⟩
        refine ⟨G, _, _, _, _, _, _, rfl, ?_⟩
        exact (((T10.new nq).same s11).mono (by omega))
    · rintro σ H2 ⟨G, t2, t3, t4, t5, t6, t7, rfl, T1⟩
      refine ⟨(by show 1 ≤ sizeLine; decide), fun tq ntq => ⟨(by show 4 ≤ sizeLine; decide), fun lq nlq => fun dq ndq => ⟨(by show 12 ≤ sizeLine; decide), fun q nq => ?_⟩⟩⟩
      have hq : ∀ {H'}, Same (upd (upd (upd (upd H2 tq (.tup [.str (Str.ofString "9e37")])) lq (.lst [.str (Str.ofString "9"), .str (Str.ofString "e"), .str (Str.ofString "3"), .str (Str.ofString "7")])) dq (.dK [])) q (.tup (things tq lq dq))) H' → SqT K H' q (things tq lq dq) := fun s => SqT.of (s _ _ upd_same)
      have tT := same_new (o := .tup (things tq lq dq)) nq _ _ (same_new (o := .dK []) ndq _ _ (same_new nlq _ _ (upd_same (H := H2) (a := tq) (o := .tup [.str (Str.ofString "9e37")]))))
      have tL := same_new (o := .tup (things tq lq dq)) nq _ _ (same_new (o := .dK []) ndq _ _ (upd_same (a := lq) (o := .lst [.str (Str.ofString "9"), .str (Str.ofString "e"), .str (Str.ofString "3"), .str (Str.ofString "7")])))
      have tD := same_new (o := .tup (things tq lq dq)) nq _ _ (upd_same (a := dq) (o := .dK []))
      generalize hHq : upd (upd (upd (upd H2 tq (.tup [.str (Str.ofString "9e37")])) lq (.lst [.str (Str.ofString "9"), .str (Str.ofString "e"), .str (Str.ofString "3"), .str (Str.ofString "7")])) dq (.dK [])) q (.tup (things tq lq dq)) = Hq at hq tT tL tD
      refine ⟨q, rfl, ⟨things tq lq dq, ?_⟩, ?_⟩
      · have := hq (Same.refl Hq)
        rw [← hHq] at this
        exact this
      refine for_it walk_tup (fun j σ H' => ∃ (t8 : Option V), σ = [some (.ref a), some (.ref tp), t2, t3, t4, t5, t6, t7, t8] ∧ Same Hq H') ⟨_, rfl, by rw [← hHq]; exact Same.refl _⟩ (fun _ _ _ _ h => by obtain ⟨_, _, s⟩ := h; exact hq s) ?_ ?_
      · rintro j x σ H3 H3' hj ⟨t8, rfl, s3⟩ ⟨rfl, hx⟩
        obtain ⟨hth, hno⟩ := things_all tT tL tD x (List.mem_of_getElem? hx)
        refine ⟨_, rfl, x, rfl, hth.mono s3, fun p H4 s4 np => ?_⟩
        have e2 : saidV x = [.str (Str.ofString "refused"), .int 0] := by unfold saidV; rw [hno]
        have e3 : saidD x = .tuple [.str (Str.ofString "refused"), .int 0] := by unfold saidD; rw [hno]
        have ff : Fine 1 (PyData.tuple [.str (Str.ofString "refused"), .int 0]) := Fine.tuple fun d hd => by
          simp only [List.mem_cons, List.not_mem_nil, or_false] at hd
          rcases hd with rfl | rfl
          · exact Fine.str (Tx.lit (n := 10) "refused" (by decide)).strOk
          · exact Fine.int 0
        rw [e2]
        refine ⟨(by show 2 ≤ sizeLine; decide), fun p2 n2 => ?_⟩
        refine ⟨.tuple [.str (Str.ofString "refused"), .int 0], .tuple [.str (Str.ofString "refused"), .int 0], .tup (SqT.of (same_new n2 _ _ upd_same)) (.cons (.str _) (.cons (.int _) .nil)), .tup (SqT.of upd_same) (.cons (.str _) (.cons (.int _) .nil)), ff.shaped, ff.shaped, _, rfl, ?_⟩
        rw [eqv_refl ff]
        exact ⟨_, rfl, (s3.trans s4).trans ((same_new np).trans (same_new n2))⟩
      · rintro σ H3 ⟨t8, rfl, s3⟩
        exact k _
theorem all_mk {l : PySem.W.OpenLaw} {w : World} {K : PySem.W.Frag} {h : Heap} {mg : Str → Option Value} {fa : Addr} {f_mark_text f_mark_by f__law_tape f__law_draw f__law_signs f__law_written f__law_bent f__law_due f__law_said f_law f_NoTextD_initD : Addr} {C_NightError C_NoText C_NoCopy C_NoFit C_NoRoom C_Unlike C_NoDeed C_NoHour C_NoRow : Addr}
    (X : K.In h) (G : h.Ns mainGlobals mg) (hfa : mg "law" = some (.ref fa))
    {od_mark_text an_mark_text od_mark_by an_mark_by od__law_tape an__law_tape od__law_draw an__law_draw od__law_signs an__law_signs od__law_written an__law_written od__law_bent an__law_bent od__law_due an__law_due od__law_said an__law_said od_law an_law od_NoTextD_initD an_NoTextD_initD : Option Addr} {sl_mark_text sl_mark_by sl__law_tape sl__law_draw sl__law_signs sl__law_written sl__law_bent sl__law_due sl__law_said sl_law sl_NoTextD_initD : Array (Option Value)}
    {oc_mark_text kV_mark_text dc_mark_text pm_mark_text cd_mark_text ct_mark_text oc_mark_by kV_mark_by dc_mark_by pm_mark_by cd_mark_by ct_mark_by oc__law_tape kV__law_tape dc__law_tape pm__law_tape cd__law_tape ct__law_tape oc__law_draw kV__law_draw dc__law_draw pm__law_draw cd__law_draw ct__law_draw oc__law_signs kV__law_signs dc__law_signs pm__law_signs cd__law_signs ct__law_signs oc__law_written kV__law_written dc__law_written pm__law_written cd__law_written ct__law_written oc__law_bent kV__law_bent dc__law_bent pm__law_bent cd__law_bent ct__law_bent oc__law_due kV__law_due dc__law_due pm__law_due cd__law_due ct__law_due oc__law_said kV__law_said dc__law_said pm__law_said cd__law_said ct__law_said oc_law kV_law dc_law pm_law cd_law ct_law oc_NoTextD_initD kV_NoTextD_initD dc_NoTextD_initD pm_NoTextD_initD cd_NoTextD_initD ct_NoTextD_initD : Value}
    {tk_SIXTEEN : Tok}
    (a_mark_text : PySem.W.nsIn K mainGlobals "mark_text" = some (some (.ref f_mark_text)))
    (a_mark_by : PySem.W.nsIn K mainGlobals "mark_by" = some (some (.ref f_mark_by)))
    (a__law_tape : PySem.W.nsIn K mainGlobals "_law_tape" = some (some (.ref f__law_tape)))
    (a__law_draw : PySem.W.nsIn K mainGlobals "_law_draw" = some (some (.ref f__law_draw)))
    (a__law_signs : PySem.W.nsIn K mainGlobals "_law_signs" = some (some (.ref f__law_signs)))
    (a__law_written : PySem.W.nsIn K mainGlobals "_law_written" = some (some (.ref f__law_written)))
    (a__law_bent : PySem.W.nsIn K mainGlobals "_law_bent" = some (some (.ref f__law_bent)))
    (a__law_due : PySem.W.nsIn K mainGlobals "_law_due" = some (some (.ref f__law_due)))
    (a__law_said : PySem.W.nsIn K mainGlobals "_law_said" = some (some (.ref f__law_said)))
    (a_law : PySem.W.nsIn K mainGlobals "law" = some (some (.ref f_law)))
    (a_NightError : PySem.W.nsIn K mainGlobals "NightError" = some (some (.ref C_NightError)))
    (a_NoText : PySem.W.nsIn K mainGlobals "NoText" = some (some (.ref C_NoText)))
    (a_NoCopy : PySem.W.nsIn K mainGlobals "NoCopy" = some (some (.ref C_NoCopy)))
    (a_NoFit : PySem.W.nsIn K mainGlobals "NoFit" = some (some (.ref C_NoFit)))
    (a_NoRoom : PySem.W.nsIn K mainGlobals "NoRoom" = some (some (.ref C_NoRoom)))
    (a_Unlike : PySem.W.nsIn K mainGlobals "Unlike" = some (some (.ref C_Unlike)))
    (a_NoDeed : PySem.W.nsIn K mainGlobals "NoDeed" = some (some (.ref C_NoDeed)))
    (a_NoHour : PySem.W.nsIn K mainGlobals "NoHour" = some (some (.ref C_NoHour)))
    (a_NoRow : PySem.W.nsIn K mainGlobals "NoRow" = some (some (.ref C_NoRow)))
    (l_mark_text : K.lookup f_mark_text = some ⟨oc_mark_text, od_mark_text, .func (PySem.W.fnOf "mark_text" "mark_text" (defArgs s_mark_text) (defBody s_mark_text) (defScope s_mark_text) .none kV_mark_text dc_mark_text pm_mark_text an_mark_text cd_mark_text ct_mark_text), sl_mark_text⟩)
    (c_mark_text : PySem.W.codeIn K cd_mark_text "mark_text" = true)
    (k_mark_text : PySem.W.keepIn K (.ref f_mark_text) = true)
    (l_mark_by : K.lookup f_mark_by = some ⟨oc_mark_by, od_mark_by, .func (PySem.W.fnOf "mark_by" "mark_by" (defArgs s_mark_by) (defBody s_mark_by) (defScope s_mark_by) .none kV_mark_by dc_mark_by pm_mark_by an_mark_by cd_mark_by ct_mark_by), sl_mark_by⟩)
    (c_mark_by : PySem.W.codeIn K cd_mark_by "mark_by" = true)
    (k_mark_by : PySem.W.keepIn K (.ref f_mark_by) = true)
    (l__law_tape : K.lookup f__law_tape = some ⟨oc__law_tape, od__law_tape, .func (PySem.W.fnOf "_law_tape" "_law_tape" (defArgs s__law_tape) (defBody s__law_tape) (defScope s__law_tape) .none kV__law_tape dc__law_tape pm__law_tape an__law_tape cd__law_tape ct__law_tape), sl__law_tape⟩)
    (c__law_tape : PySem.W.codeIn K cd__law_tape "_law_tape" = true)
    (k__law_tape : PySem.W.keepIn K (.ref f__law_tape) = true)
    (l__law_draw : K.lookup f__law_draw = some ⟨oc__law_draw, od__law_draw, .func (PySem.W.fnOf "_law_draw" "_law_draw" (defArgs s__law_draw) (defBody s__law_draw) (defScope s__law_draw) .none kV__law_draw dc__law_draw pm__law_draw an__law_draw cd__law_draw ct__law_draw), sl__law_draw⟩)
    (c__law_draw : PySem.W.codeIn K cd__law_draw "_law_draw" = true)
    (k__law_draw : PySem.W.keepIn K (.ref f__law_draw) = true)
    (l__law_signs : K.lookup f__law_signs = some ⟨oc__law_signs, od__law_signs, .func (PySem.W.fnOf "_law_signs" "_law_signs" (defArgs s__law_signs) (defBody s__law_signs) (defScope s__law_signs) .none kV__law_signs dc__law_signs pm__law_signs an__law_signs cd__law_signs ct__law_signs), sl__law_signs⟩)
    (c__law_signs : PySem.W.codeIn K cd__law_signs "_law_signs" = true)
    (k__law_signs : PySem.W.keepIn K (.ref f__law_signs) = true)
    (l__law_written : K.lookup f__law_written = some ⟨oc__law_written, od__law_written, .func (PySem.W.fnOf "_law_written" "_law_written" (defArgs s__law_written) (defBody s__law_written) (defScope s__law_written) .none kV__law_written dc__law_written pm__law_written an__law_written cd__law_written ct__law_written), sl__law_written⟩)
    (c__law_written : PySem.W.codeIn K cd__law_written "_law_written" = true)
    (k__law_written : PySem.W.keepIn K (.ref f__law_written) = true)
    (l__law_bent : K.lookup f__law_bent = some ⟨oc__law_bent, od__law_bent, .func (PySem.W.fnOf "_law_bent" "_law_bent" (defArgs s__law_bent) (defBody s__law_bent) (defScope s__law_bent) .none kV__law_bent dc__law_bent pm__law_bent an__law_bent cd__law_bent ct__law_bent), sl__law_bent⟩)
    (c__law_bent : PySem.W.codeIn K cd__law_bent "_law_bent" = true)
    (k__law_bent : PySem.W.keepIn K (.ref f__law_bent) = true)
    (l__law_due : K.lookup f__law_due = some ⟨oc__law_due, od__law_due, .func (PySem.W.fnOf "_law_due" "_law_due" (defArgs s__law_due) (defBody s__law_due) (defScope s__law_due) .none kV__law_due dc__law_due pm__law_due an__law_due cd__law_due ct__law_due), sl__law_due⟩)
    (c__law_due : PySem.W.codeIn K cd__law_due "_law_due" = true)
    (k__law_due : PySem.W.keepIn K (.ref f__law_due) = true)
    (l__law_said : K.lookup f__law_said = some ⟨oc__law_said, od__law_said, .func (PySem.W.fnOf "_law_said" "_law_said" (defArgs s__law_said) (defBody s__law_said) (defScope s__law_said) .none kV__law_said dc__law_said pm__law_said an__law_said cd__law_said ct__law_said), sl__law_said⟩)
    (c__law_said : PySem.W.codeIn K cd__law_said "_law_said" = true)
    (k__law_said : PySem.W.keepIn K (.ref f__law_said) = true)
    (l_law : K.lookup f_law = some ⟨oc_law, od_law, .func (PySem.W.fnOf "law" "law" (defArgs s_law) (defBody s_law) (defScope s_law) .none kV_law dc_law pm_law an_law cd_law ct_law), sl_law⟩)
    (c_law : PySem.W.codeIn K cd_law "law" = true)
    (k_law : PySem.W.keepIn K (.ref f_law) = true)
    (fi_NoTextD_initD : PySem.W.findIn K (.ref C_NoText) "__init__" = some (some (.ref f_NoTextD_initD)))
    (ft_NoTextD_initD : PySem.W.typeIn K (.ref f_NoTextD_initD) = some (.type "function"))
    (l_NoTextD_initD : K.lookup f_NoTextD_initD = some ⟨oc_NoTextD_initD, od_NoTextD_initD, .func (PySem.W.fnOf "__init__" "NoText.__init__" (defArgs s_NoTextD_initD) (defBody s_NoTextD_initD) (defScope s_NoTextD_initD) .none kV_NoTextD_initD dc_NoTextD_initD pm_NoTextD_initD an_NoTextD_initD cd_NoTextD_initD ct_NoTextD_initD), sl_NoTextD_initD⟩)
    (c_NoTextD_initD : PySem.W.codeIn K cd_NoTextD_initD "NoText.__init__" = true)
    (k_NoTextD_initD : PySem.W.keepIn K (.ref f_NoTextD_initD) = true)
    (z_ValueError : PySem.W.nsIn K mainGlobals "ValueError" = some none)
    (z_abs : PySem.W.nsIn K mainGlobals "abs" = some none)
    (z_all : PySem.W.nsIn K mainGlobals "all" = some none)
    (z_int : PySem.W.nsIn K mainGlobals "int" = some none)
    (z_isinstance : PySem.W.nsIn K mainGlobals "isinstance" = some none)
    (z_len : PySem.W.nsIn K mainGlobals "len" = some none)
    (z_list : PySem.W.nsIn K mainGlobals "list" = some none)
    (z_range : PySem.W.nsIn K mainGlobals "range" = some none)
    (z_repr : PySem.W.nsIn K mainGlobals "repr" = some none)
    (z_str : PySem.W.nsIn K mainGlobals "str" = some none)
    (g_SIXTEEN : PySem.W.nsIn K mainGlobals "SIXTEEN" = some (some (.str "0123456789abcdef" tk_SIXTEEN)))
    (bs_NightError : PySem.W.specialIn K (.ref C_NightError) "__getattribute__" = some (some (.builtin "type.__getattribute__")))
    (br_NightError : PySem.W.readsIn K C_NightError (.type "type") = true)
    (bi_NightError : PySem.W.findCls K (.ref C_NightError) (.type "type") "__init__" = some (.val (.builtin "ValueError.__init__")))
    {nm_NoText q_NoText : Str} {N_NoText : Addr} {bs1_NoText bm_NoText sub_NoText : List Value} {sn_NoText : List Str} {ab_NoText : Bool} {col_NoText : Option Bool} {dd_NoText : Option Addr} {m0_NoText m1_NoText m2_NoText m3_NoText m5_NoText : Option Value}
    (xl_NoText : K.lookup C_NoText = some (excClassObj nm_NoText q_NoText C_NoText N_NoText bs1_NoText bm_NoText true sn_NoText sub_NoText ab_NoText col_NoText dd_NoText m0_NoText m1_NoText m2_NoText m3_NoText m5_NoText "ValueError.__new__"))
    (xr_NoText : PySem.HandSPX.refsVE bm_NoText = true)
    (xs_NoText : PySem.W.findIn K (.ref C_NoText) "__setattr__" = some (some (.builtin "object.__setattr__")))
    (xe_NoText : PySem.W.subIn K (.ref C_NoText) (.type "BaseException") = some true)
    (xt_NoText : PySem.W.typeIn K (.ref C_NoText) = some (.type "type"))
    (xk_NoText : PySem.W.keepIn K (.ref C_NoText) = true)
    (eg_NoText : PySem.W.findIn K (.ref C_NoText) "__getattribute__" = some (some (.builtin "BaseException.__getattribute__")))
    (ek_NoText : PySem.W.findIn K (.ref C_NoText) "__getattr__" = some none)
    (ed_NoText : PySem.W.hasDictIn K C_NoText = true)
    (ea_NoText : PySem.W.findIn K (.ref C_NoText) "__class__" = some (some (.builtin "object.__class__")))
    (en_NoText : PySem.W.specialIn K (.builtin "object.__class__") "__get__" = some (some (.builtin "getset_descriptor.__get__")))
    (et_NoText : PySem.W.takesIn K (.builtin "object.__class__") = some true)
    (em_NoText : PySem.W.mroIn K C_NoText (.type "object") = some true)
    (no_NoText_row : PySem.W.findIn K (.ref C_NoText) "row" = some none)
    (mm_NoText_NightError : PySem.W.exmOne K (.ref C_NoText) (.ref C_NightError) = some true)
    (kk_NoText_NoCopy : PySem.W.kitOne K (.ref C_NoText) (.ref C_NoCopy) = some false)
    (kk_NoText_NoDeed : PySem.W.kitOne K (.ref C_NoText) (.ref C_NoDeed) = some false)
    (kk_NoText_NoFit : PySem.W.kitOne K (.ref C_NoText) (.ref C_NoFit) = some false)
    (kk_NoText_NoHour : PySem.W.kitOne K (.ref C_NoText) (.ref C_NoHour) = some false)
    (kk_NoText_NoRoom : PySem.W.kitOne K (.ref C_NoText) (.ref C_NoRoom) = some false)
    (kk_NoText_NoRow : PySem.W.kitOne K (.ref C_NoText) (.ref C_NoRow) = some false)
    (kk_NoText_Unlike : PySem.W.kitOne K (.ref C_NoText) (.ref C_Unlike) = some false)
    (kk_NoText_ValueError : PySem.W.kitOne K (.ref C_NoText) (.type "ValueError") = some true)
    (kk_NoText_NoText : PySem.W.kitOne K (.ref C_NoText) (.ref C_NoText) = some true)
    : ∃ (c : Ad) (fd : FuncData), (∀ (s : Shared) (v : Value), BindsTo s fd ⟨[v], []⟩ [("_law_script", v)]) ∧ ∀ base : Heap, K.In base → base.Ns mainGlobals mg → FnG l.prog w K mg base CX0 6 fa fd ["_law_script"] (sp_law K c) := by
  have e := hfa.symm.trans (PySem.W.mg_of X G a_law)
  cases e
  have T : Txt K mg (⟨C_NightError, C_NoText, C_NoCopy, C_NoFit, C_NoRoom, C_Unlike, C_NoDeed, C_NoHour, C_NoRow⟩ : Ad) := ⟨PySem.W.mg_none_of X G z_ValueError, PySem.W.mg_none_of X G z_abs, PySem.W.mg_none_of X G z_all, PySem.W.mg_none_of X G z_int, PySem.W.mg_none_of X G z_isinstance, PySem.W.mg_none_of X G z_len, PySem.W.mg_none_of X G z_list, PySem.W.mg_none_of X G z_range, PySem.W.mg_none_of X G z_repr, PySem.W.mg_none_of X G z_str, ⟨_, PySem.W.mg_of X G g_SIXTEEN, ⟨_, rfl⟩⟩, PySem.W.mg_of X G a_NightError, PySem.W.mg_of X G a_NoText, PySem.W.mg_of X G a_NoCopy, PySem.W.mg_of X G a_NoFit, PySem.W.mg_of X G a_NoRoom, PySem.W.mg_of X G a_Unlike, PySem.W.mg_of X G a_NoDeed, PySem.W.mg_of X G a_NoHour, PySem.W.mg_of X G a_NoRow, ⟨PySem.W.mg_of X G a_NightError, bs_NightError, br_NightError, bi_NightError⟩, ⟨⟨_, _, _, _, _, _, _, _, _, _, _, _, _, _, _, xl_NoText, xr_NoText⟩, xs_NoText, xe_NoText, xt_NoText, xk_NoText⟩, ⟨eg_NoText, ek_NoText, xe_NoText, ed_NoText, ea_NoText, en_NoText, et_NoText, em_NoText⟩, no_NoText_row, mm_NoText_NightError, kk_NoText_NoCopy, kk_NoText_NoDeed, kk_NoText_NoFit, kk_NoText_NoHour, kk_NoText_NoRoom, kk_NoText_NoRow, kk_NoText_Unlike, kk_NoText_ValueError, kk_NoText_NoText⟩
  have F_mark_text := fun_mk (st := s_mark_text) l_mark_text c_mark_text k_mark_text
  have F_mark_by := fun_mk (st := s_mark_by) l_mark_by c_mark_by k_mark_by
  have F__law_tape := fun_mk (st := s__law_tape) l__law_tape c__law_tape k__law_tape
  have F__law_draw := fun_mk (st := s__law_draw) l__law_draw c__law_draw k__law_draw
  have F__law_signs := fun_mk (st := s__law_signs) l__law_signs c__law_signs k__law_signs
  have F__law_written := fun_mk (st := s__law_written) l__law_written c__law_written k__law_written
  have F__law_bent := fun_mk (st := s__law_bent) l__law_bent c__law_bent k__law_bent
  have F__law_due := fun_mk (st := s__law_due) l__law_due c__law_due k__law_due
  have F__law_said := fun_mk (st := s__law_said) l__law_said c__law_said k__law_said
  have F_law := fun_mk (st := s_law) l_law c_law k_law
  have F_NoTextD_initD := fun_mk (st := s_NoTextD_initD) l_NoTextD_initD c_NoTextD_initD k_NoTextD_initD
  have KB_mark_text_0_mark : KB K _ ps_mark_text 0 ["mark"] (fun _ zs => zs) := Fun.kb F_mark_text 0 _ (fun {_} => (fun _ zs => zs)) (fun _ r => r) fun _ _ _ _ _ _ us ws h1 h2 => match us, ws, h1, h2 with | [], [_], _, _ => rfl
  have KB_mark_by_0_text : KB K _ ps_mark_by 0 ["text"] (fun _ zs => zs) := Fun.kb F_mark_by 0 _ (fun {_} => (fun _ zs => zs)) (fun _ r => r) fun _ _ _ _ _ _ us ws h1 h2 => match us, ws, h1, h2 with | [], [_], _, _ => rfl
  have B__law_tape := F__law_tape.binds (ps := ps__law_tape) fun _ _ _ _ _ _ us hl => match us, hl with | [_], _ => rfl
  have B__law_draw := F__law_draw.binds (ps := ps__law_draw) fun _ _ _ _ _ _ us hl => match us, hl with | [_, _], _ => rfl
  have B__law_signs := F__law_signs.binds (ps := ps__law_signs) fun _ _ _ _ _ _ us hl => match us, hl with | [], _ => rfl
  have B__law_written := F__law_written.binds (ps := ps__law_written) fun _ _ _ _ _ _ us hl => match us, hl with | [_], _ => rfl
  have B__law_bent := F__law_bent.binds (ps := ps__law_bent) fun _ _ _ _ _ _ us hl => match us, hl with | [_, _], _ => rfl
  have B__law_due := F__law_due.binds (ps := ps__law_due) fun _ _ _ _ _ _ us hl => match us, hl with | [_], _ => rfl
  have B__law_said := F__law_said.binds (ps := ps__law_said) fun _ _ _ _ _ _ us hl => match us, hl with | [_], _ => rfl
  have B_NoTextD_initD := F_NoTextD_initD.binds (ps := ps_NoTextD_initD) fun _ _ _ _ _ _ us hl => match us, hl with | [_, _], _ => rfl
  refine ⟨(⟨C_NightError, C_NoText, C_NoCopy, C_NoFit, C_NoRoom, C_Unlike, C_NoDeed, C_NoHour, C_NoRow⟩ : Ad), PySem.W.fnOf "law" "law" (defArgs s_law) (defBody s_law) (defScope s_law) .none kV_law dc_law pm_law an_law cd_law ct_law, fun s v => .of_eq rfl, fun base _ _ => ?_⟩
  have R_NoText : RaiseC l.prog w K mg base C_NoText "NoText" ps_NoTextD_initD ["row"] := ⟨f_NoTextD_initD, _, fi_NoTextD_initD, ft_NoTextD_initD, ok_NoTextD_initD T F_NoTextD_initD, B_NoTextD_initD⟩
  have O__law_draw : OkG l.prog w K mg base CX0 1 "_law_draw" ps__law_draw (sp__law_draw K) f__law_draw _ := ⟨ok__law_draw T F__law_draw , PySem.W.mg_of X G a__law_draw, k__law_draw⟩
  have O__law_tape : OkG l.prog w K mg base CX0 1 "_law_tape" ps__law_tape (sp__law_tape K) f__law_tape _ := ⟨ok__law_tape T F__law_tape , PySem.W.mg_of X G a__law_tape, k__law_tape⟩
  have O__law_signs : OkG l.prog w K mg base CX0 1 "_law_signs" ps__law_signs (sp__law_signs) f__law_signs _ := ⟨ok__law_signs T F__law_signs , PySem.W.mg_of X G a__law_signs, k__law_signs⟩
  have O_mark_text : OkG l.prog w K mg base CX0 1 "mark_text" ps_mark_text (sp_mark_text) f_mark_text _ := ⟨ok_mark_text T F_mark_text , PySem.W.mg_of X G a_mark_text, k_mark_text⟩
  have O_mark_by : OkG l.prog w K mg base (L2.CX l.prog w) 4 "mark_by" ps_mark_by (sp_mark_by (⟨C_NightError, C_NoText, C_NoCopy, C_NoFit, C_NoRoom, C_Unlike, C_NoDeed, C_NoHour, C_NoRow⟩ : Ad)) f_mark_by _ := ⟨ok_mark_by T F_mark_by R_NoText, PySem.W.mg_of X G a_mark_by, k_mark_by⟩
  have O__law_written : OkG l.prog w K mg base CX0 1 "_law_written" ps__law_written (sp__law_written) f__law_written _ := ⟨ok__law_written T F__law_written , PySem.W.mg_of X G a__law_written, k__law_written⟩
  have O__law_due : OkG l.prog w K mg base CX0 1 "_law_due" ps__law_due (sp__law_due) f__law_due _ := ⟨ok__law_due T F__law_due , PySem.W.mg_of X G a__law_due, k__law_due⟩
  have O__law_bent : OkG l.prog w K mg base CX0 2 "_law_bent" ps__law_bent (sp__law_bent K) f__law_bent _ := ⟨ok__law_bent T F__law_bent O__law_draw B__law_draw O__law_signs B__law_signs, PySem.W.mg_of X G a__law_bent, k__law_bent⟩
  have O__law_said : OkG l.prog w K mg base CX0 5 "_law_said" ps__law_said (sp__law_said) f__law_said _ := ⟨ok__law_said T F__law_said O_mark_by KB_mark_by_0_text, PySem.W.mg_of X G a__law_said, k__law_said⟩
  exact ok_law T F_law O__law_tape B__law_tape O_mark_text KB_mark_text_0_mark O__law_bent B__law_bent O__law_draw B__law_draw O__law_written B__law_written O__law_due B__law_due O__law_said B__law_said
theorem walk {l : PySem.W.OpenLaw} {q : Program} {loose : List Str} {XP : (Str → Option Value) → Heap → Prop} {YP : World → Heap → Prop} {d : DefRec} {K : Params → PySem.W.Frag} (hn : l.most = some 63) (hdf : d.params.defaults = [])
    (hY : ∀ (w : World) (h : Heap), YP w h → (K w.params).In h)
    (F : ∀ (w : World) (mg : Str → Option Value) (fa : Addr) (h : Heap), (K w.params).In h → h.Ns mainGlobals mg → mg d.name = some (.ref fa) →
      ∃ (c : Ad) (fd : FuncData), (∀ (s : Shared) (u : Value), BindsTo s fd ⟨[u], []⟩ [("_law_script", u)]) ∧ ∀ base : Heap, (K w.params).In base → base.Ns mainGlobals mg → FnG l.prog w (K w.params) mg base CX0 6 fa fd ["_law_script"] (sp_law (K w.params) c)) :
    PySem.W.WalkO q loose XP YP l.row.toRowW d [] (fun f vs => PySem.call f vs) :=
  walk_ofG (n := 63) (k := 6) (x := "_law_script") (CX := fun _ => CX0) (sp := fun w => spL (K w.params)) hn (by decide) hdf ⟨rfl, by decide, by decide⟩ hY
    (fun w mg fa h a b c => by
      obtain ⟨ad, fd, h1, h2⟩ := F w mg fa h a b c
      exact ⟨fd, h1, h2⟩) (fun _ _ a ns hl _ hS => ⟨a, ns, rfl, hS, hl, fun _ => rfl⟩) fun _ _ _ _ _ z => z
end Nk05

open PySem PySem.W PyProof.Rows in
set_option maxRecDepth 100000 in
set_option maxHeartbeats 0 in
theorem PySem.Challenge.cw_nightpaper_k05_marks_written_and_read_holds : PySem.Challenge.rw_nightpaper_k05_marks_written_and_read.Holds := by
  w_on; o_law; k_head; (case hw => w_witness2)
  k_fill
  refine Nk05.walk (l := PySem.Challenge.rw_nightpaper_k05_marks_written_and_read) rfl rfl (fun w h Y => PySem.W.kIn_of Y) ?F
  case F =>
    intro w mg fa h KX G hmg
    refine' Nk05.all_mk KX G hmg ?a_mark_text ?a_mark_by ?a__law_tape ?a__law_draw ?a__law_signs ?a__law_written ?a__law_bent ?a__law_due ?a__law_said ?a_law ?a_NightError ?a_NoText ?a_NoCopy ?a_NoFit ?a_NoRoom ?a_Unlike ?a_NoDeed ?a_NoHour ?a_NoRow ?l_mark_text ?c_mark_text ?k_mark_text ?l_mark_by ?c_mark_by ?k_mark_by ?l__law_tape ?c__law_tape ?k__law_tape ?l__law_draw ?c__law_draw ?k__law_draw ?l__law_signs ?c__law_signs ?k__law_signs ?l__law_written ?c__law_written ?k__law_written ?l__law_bent ?c__law_bent ?k__law_bent ?l__law_due ?c__law_due ?k__law_due ?l__law_said ?c__law_said ?k__law_said ?l_law ?c_law ?k_law ?fi_NoTextD_initD ?ft_NoTextD_initD ?l_NoTextD_initD ?c_NoTextD_initD ?k_NoTextD_initD ?z_ValueError ?z_abs ?z_all ?z_int ?z_isinstance ?z_len ?z_list ?z_range ?z_repr ?z_str ?g_SIXTEEN ?bs_NightError ?br_NightError ?bi_NightError ?xl_NoText ?xr_NoText ?xs_NoText ?xe_NoText ?xt_NoText ?xk_NoText ?eg_NoText ?ek_NoText ?ed_NoText ?ea_NoText ?en_NoText ?et_NoText ?em_NoText ?no_NoText_row ?mm_NoText_NightError ?kk_NoText_NoCopy ?kk_NoText_NoDeed ?kk_NoText_NoFit ?kk_NoText_NoHour ?kk_NoText_NoRoom ?kk_NoText_NoRow ?kk_NoText_Unlike ?kk_NoText_ValueError ?kk_NoText_NoText
    (case a_mark_text => k_is)
    (case a_mark_by => k_is)
    (case a__law_tape => k_is)
    (case a__law_draw => k_is)
    (case a__law_signs => k_is)
    (case a__law_written => k_is)
    (case a__law_bent => k_is)
    (case a__law_due => k_is)
    (case a__law_said => k_is)
    (case a_law => k_is)
    (case a_NightError => k_is)
    (case a_NoText => k_is)
    (case a_NoCopy => k_is)
    (case a_NoFit => k_is)
    (case a_NoRoom => k_is)
    (case a_Unlike => k_is)
    (case a_NoDeed => k_is)
    (case a_NoHour => k_is)
    (case a_NoRow => k_is)
    (case l_mark_text => k_is)
    (case c_mark_text => k_is)
    (case k_mark_text => k_is)
    (case l_mark_by => k_is)
    (case c_mark_by => k_is)
    (case k_mark_by => k_is)
    (case l__law_tape => k_is)
    (case c__law_tape => k_is)
    (case k__law_tape => k_is)
    (case l__law_draw => k_is)
    (case c__law_draw => k_is)
    (case k__law_draw => k_is)
    (case l__law_signs => k_is)
    (case c__law_signs => k_is)
    (case k__law_signs => k_is)
    (case l__law_written => k_is)
    (case c__law_written => k_is)
    (case k__law_written => k_is)
    (case l__law_bent => k_is)
    (case c__law_bent => k_is)
    (case k__law_bent => k_is)
    (case l__law_due => k_is)
    (case c__law_due => k_is)
    (case k__law_due => k_is)
    (case l__law_said => k_is)
    (case c__law_said => k_is)
    (case k__law_said => k_is)
    (case l_law => k_is)
    (case c_law => k_is)
    (case k_law => k_is)
    (case fi_NoTextD_initD => k_is)
    (case ft_NoTextD_initD => k_is)
    (case l_NoTextD_initD => k_is)
    (case c_NoTextD_initD => k_is)
    (case k_NoTextD_initD => k_is)
    (case z_ValueError => k_is)
    (case z_abs => k_is)
    (case z_all => k_is)
    (case z_int => k_is)
    (case z_isinstance => k_is)
    (case z_len => k_is)
    (case z_list => k_is)
    (case z_range => k_is)
    (case z_repr => k_is)
    (case z_str => k_is)
    (case g_SIXTEEN => k_is)
    (case bs_NightError => k_is)
    (case br_NightError => k_is)
    (case bi_NightError => k_is)
    (case xl_NoText => k_is)
    (case xr_NoText => first | rfl | decide +kernel | k_is)
    (case xs_NoText => k_is)
    (case xe_NoText => k_is)
    (case xt_NoText => k_is)
    (case xk_NoText => k_is)
    (case eg_NoText => k_is)
    (case ek_NoText => k_is)
    (case ed_NoText => k_is)
    (case ea_NoText => k_is)
    (case en_NoText => k_is)
    (case et_NoText => k_is)
    (case em_NoText => k_is)
    (case no_NoText_row => k_is)
    (case mm_NoText_NightError => first | k_is | rfl)
    (case kk_NoText_NoCopy => first | k_is | rfl)
    (case kk_NoText_NoDeed => first | k_is | rfl)
    (case kk_NoText_NoFit => first | k_is | rfl)
    (case kk_NoText_NoHour => first | k_is | rfl)
    (case kk_NoText_NoRoom => first | k_is | rfl)
    (case kk_NoText_NoRow => first | k_is | rfl)
    (case kk_NoText_Unlike => first | k_is | rfl)
    (case kk_NoText_ValueError => first | k_is | rfl)
    (case kk_NoText_NoText => first | k_is | rfl)
#print axioms PySem.Challenge.cw_nightpaper_k05_marks_written_and_read_holds
