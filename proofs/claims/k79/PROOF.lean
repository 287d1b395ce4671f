import PyProof.Rows.All
import Wide.All
import OpenK.AllK
import Wide.FinOn
import HandS.ForMost
import HandS.IsInst
import HandS.Defaults
import HandS.FStr
import HandS.StrMore
import HandS.Flow
import HandS.More
import HandS.Walk
import HandS.Style
import HandS.ForExc
import HandS.ExcInit
import HandS.ExcIs
import HandS.ExcField
import HandS.WordsExc
import KE.KExcIs
import HandS.IntHex
import HandS.Codes
import HandS.TupAny
import HandS.SortInts
import HandS.Deep
import HandS.Conv
import PyProof.Rows.StrSplitMax
import HandS.Replace
import HandS.ReplaceLit
import HandS.MakeKw
import KE.GoesEnumKw
import HandS.Flt
import KE.KExcInit
import KE.KTryMore
import PyProof.CallStr
import PyProof.CallType
import PyProof.InstEq
import HandS.OwnEq
import PyProof.Conv_bool
import PyProof.ListTruth
import HandS.Small
import HandS.TupLe
import PyProof.ListRange
import HandS.Records
import KE.KIntText
import KE.IntTextLaws
import PyProof.Rows.StrSplit
import KE.DataMinKey
import KE.DataCmp
import HandS.FromBytesMap
import HandS.SortKw
import HandS.Zip
import KE.DatumOrd
import HandS.ExcOwn
import HandS.Dict
import HandS.RaiseMore
import HandS.ReplaceDef
import KE.SortData
import PySem.Challenge.RW_nightpaper_k79_texts_packed
set_option Elab.async false
set_option linter.all false
set_option maxRecDepth 100000
set_option maxHeartbeats 4000000
namespace Np
open PySem L2

/-! ### a def as it is called -/
structure OkF (P : Program) (w : World) (K : PySem.W.Frag) (mg : Str → Option Value) (base : Heap) (CX : CXT) (k : Nat) (x : Str) (ps : List Str) (sp : Sp) (f : Addr) (fd : FuncData) : Prop where
  ok : FnOk P w K mg base CX k f fd ps sp
  m : mg x = some (.ref f)
  kp : PySem.W.keepIn K (.ref f) = true

def Glb (mg : Str → Option Value) (x : Str) (v : V) : Prop := ∃ u, mg x = some u ∧ RelV v u

section
variable {X : Cx} {k n : Nat} {f : Addr} {fd : FuncData} {ps ks : List Str} {sp : Sp} {x : Str} {p pos : Pos} {e : Expr} {es : List Expr} {kws : List Keyword} {t tk : TA} {v : V}
theorem pe_g (h : Glb X.mg x v) (hg : Gl X x := by rfl) (hd : (x == ("__debug__" : Str)) = false := by decide) : PE X (.Name x pos) (tC v) := by
  obtain ⟨u, hm, r⟩ := h
  exact pe_glob hg hm r hd
/-- f(e, ..), no defaults -/
theorem pe_f (O : OkF X.prog X.w X.K X.mg X.base CX0 k x ps sp f fd) (b : Binds X.K fd ps []) (hr : Room k X.A) (hx : Passes CX0 X E0) (ha : PA X (e :: es) t) (hg : Gl X x := by rfl)
    (hdb : (x == ("__debug__" : Str)) = false := by decide) (he : starEach (e :: es) X.env = (false, eval e X.env) :: starEach es X.env := by rfl) (hpl : (backTo pos (starEach es X.env)).any (·.1) = false := by rfl) :
    PE X (.Call (.Name x p) (e :: es) [] pos) (tCall sp [] E0 t) := pe_call O.ok hr hg O.m O.kp b .nil hx ha hdb he hpl
theorem pe_f0 (O : OkF X.prog X.w X.K X.mg X.base CX0 k x ps sp f fd) (b : Binds X.K fd ps []) (hr : Room k X.A) (hx : Passes CX0 X E0) (hg : Gl X x := by rfl)
    (hdb : (x == ("__debug__" : Str)) = false := by decide) : PE X (.Call (.Name x p) [] [] pos) (tCall sp [] E0 tNil) := pe_call0 O.ok hr hg O.m O.kp b .nil hx hdb
/-- f(e, ..), the rest by defaults -/
theorem pe_fD {dvs : List V} (O : OkF X.prog X.w X.K X.mg X.base CX0 k x ps sp f fd) (b : ∃ ds, Vals dvs ds ∧ Binds X.K fd ps ds) (hr : Room k X.A) (hx : Passes CX0 X E0) (ha : PA X (e :: es) t) (hg : Gl X x := by rfl)
    (hdb : (x == ("__debug__" : Str)) = false := by decide) (he : starEach (e :: es) X.env = (false, eval e X.env) :: starEach es X.env := by rfl) (hpl : (backTo pos (starEach es X.env)).any (·.1) = false := by rfl) :
    PE X (.Call (.Name x p) (e :: es) [] pos) (tCall sp dvs E0 t) := by
  obtain ⟨ds, hv, hb⟩ := b
  exact pe_call O.ok hr hg O.m O.kp hb hv hx ha hdb he hpl
def KB (K : PySem.W.Frag) (fd : FuncData) (ps : List Str) (n : Nat) (ks : List Str) (gV : List V → List V → List V) : Prop := ∃ g, KBn K fd ps n ks g gV
theorem pe_fK {gV : List V → List V → List V} (O : OkF X.prog X.w X.K X.mg X.base CX0 k x ps sp f fd) (b : KB X.K fd ps n ks gV) (hr : Room k X.A) (hx : Passes CX0 X E0)
    (ha : PA X (e :: es) t) (hkw : PK X kws tk) (hg : Gl X x := by rfl) (hall : (backToKw pos (keywordEach kws X.env)).all (·.1.isSome) = true := by rfl) (hks : (backToKw pos (keywordEach kws X.env)).filterMap (·.1) = ks := by rfl)
    (hdb : (x == ("__debug__" : Str)) = false := by decide) (he : starEach (e :: es) X.env = (false, eval e X.env) :: starEach es X.env := by rfl)
    (hpl : ((backTo pos (starEach (e :: es) X.env)).any (·.1) || (backToKw pos (keywordEach kws X.env)).any (·.1.isNone)) = false := by rfl) :
    PE X (.Call (.Name x p) (e :: es) kws pos) (tCallN n ks.length sp gV E0 t tk) := by
  obtain ⟨g, hb⟩ := b
  exact pe_callN O.ok hr hg O.m O.kp hb hx ha hkw hall hks hdb he hpl
theorem pe_fK0 {gV : List V → List V → List V} (O : OkF X.prog X.w X.K X.mg X.base CX0 k x ps sp f fd) (b : KB X.K fd ps 0 ks gV) (hr : Room k X.A) (hx : Passes CX0 X E0)
    (hkw : PK X kws tk) (hg : Gl X x := by rfl) (hall : (backToKw pos (keywordEach kws X.env)).all (·.1.isSome) = true := by rfl) (hks : (backToKw pos (keywordEach kws X.env)).filterMap (·.1) = ks := by rfl)
    (hdb : (x == ("__debug__" : Str)) = false := by decide)
    (hpl : ((backTo pos (starEach [] X.env)).any (·.1) || (backToKw pos (keywordEach kws X.env)).any (·.1.isNone)) = false := by rfl) :
    PE X (.Call (.Name x p) [] kws pos) (tCallN 0 ks.length sp gV E0 tNil tk) := by
  obtain ⟨g, hb⟩ := b
  refine ⟨fun pins s σ H Q I h => ?_⟩
  refine wpAny_Call_Name_kw (ld_glob I hg O.m ?_ hdb)
  refine PySem.W.callWith_KW0 (h₀ := X.base) I.ok.mod.kin O.kp hall ?_ hpl
  refine L2.thn (hkw.run pos pins s σ H _ I h) fun ws s2 ⟨zs, H2, I2, rz, l1, l2, q2⟩ => ⟨I2.kIn, ?_⟩
  rw [hks]
  exact run_fnN (us := []) (vs := []) O.ok hr hb hx I2 .nil rz l1 l2 q2
end
theorem Fun.kb {K : PySem.W.Frag} {x qual : Str} {st : Stmt} {f : Addr} {fd : FuncData} {ps : List Str} (F : Fun K x qual st f fd) (n : Nat) (ks : List Str) (g : {α : Type} → List α → List α → List α)
    (hrel : ∀ {vs zs : List V} {us ws : List Value}, Vals vs us → Vals zs ws → Vals (g vs zs) (g us ws))
    (h : ∀ (kV doc pm : Value) (an : Option Addr) (cdv ct : Value) (us ws : List Value), us.length = n → ws.length = ks.length → bindArgs (PySem.W.fnOf x qual (defArgs st) (defBody st) (defScope st) .none kV doc pm an cdv ct) ⟨us, ks.zip ws⟩ = pure (ps.zip (g us ws))) : KB K fd ps n ks g := by
  obtain ⟨oc, od, kV, doc, pm, an, cdv, ct, osl, rfl, lk, hcd⟩ := F.ex
  exact ⟨fun us ws => g us ws, ⟨fun s us ws X l1 l2 => .of_eq (h kV doc pm an cdv ct us ws l1 l2), fun r1 r2 => hrel r1 r2⟩⟩

/-! ### heaps: what stays -/
theorem same_new {H : Hp} {p : Addr} {o : HO} (h : H p = none) : Same H (upd H p o) := fun a u e => by
  rw [upd_ne (ne_of_none e h)]
  exact e
theorem same_mut {G H : Hp} {p : Addr} {o : HO} (e : Same G H) (h : G p = none) : Same G (upd H p o) := fun a u ha => by
  rw [upd_ne (ne_of_none ha h)]
  exact e a u ha
theorem same_both {G H : Hp} {p : Addr} {o : HO} (e : Same G H) : Same (upd G p o) (upd H p o) := fun a u ha => by
  by_cases hp : a = p
  · subst hp
    rw [upd_same] at ha
    rw [upd_same]
    exact ha
  · rw [upd_ne hp] at ha
    rw [upd_ne hp]
    exact e a u ha

/-! ### list(text) -/
theorem call_listS {X : Cx} (hc : X.calm = true) : CallR X (.type "list") (fun xs H Q => ∃ z : Str, xs = [.str z] ∧ z.length ≤ sizeLine ∧ ∀ q, H q = none → Q (.ref q) (upd H q (.lst (z.cps.toList.map fun c => V.str ⟨#[c]⟩)))) := by
  intro pins s σ H xs us Q I r h
  obtain ⟨z, rfl, hz, q⟩ := h
  obtain ⟨u, rfl, t, rfl⟩ := vals1 r
  refine PySem.call_list_str (I.ok.hd hc) z t (fun h' tk acc c' hk e hi => ?_) hz
  refine ⟨.ref s.heap.objs.size, upd H s.heap.objs.size (.lst (z.cps.toList.map fun c => V.str ⟨#[c]⟩)), I.laid hk (Nat.le_refl _) ⟨by rw [List.length_map, Array.length_toList]; exact hz, acc.toList, c', ?_, by rw [Array.toArray_toList]; exact e⟩, rfl, q _ (I.hok.fresh (Nat.le_refl _))⟩
  refine vals_of_idx _ _ (by rw [List.length_map, Array.length_toList, Array.length_toList]; exact hi.1) fun j u hj => ?_
  obtain ⟨c, t', hc, rfl⟩ := hi.2 j u (by rw [← Array.getElem?_toList]; exact hj)
  exact ⟨.str ⟨#[c]⟩, by simp [hc], ⟨_, rfl⟩⟩
end Np
namespace Np
open PySem L2
/-- what follows a statement, once for all its ways -/
theorem seq_have {t rest : TS} {D : Ends} {σ : St} {H : Hp} (Mid : St → Hp → Prop) (h2 : ∀ σ H, Mid σ H → rest D σ H) (h1 : (∀ σ H, Mid σ H → rest D σ H) → tSeq t rest D σ H) : tSeq t rest D σ H := h1 h2
theorem asgc_step {v : V} {i : Nat} {rest : TS} {D : Ends} {σ : St} {H : Hp} (h : rest D (σ.set i (some v)) H) : tSeq (tAsg (tC v) (gName i)) rest D σ H := h
theorem dp_ints {K : PySem.W.Frag} {H : Hp} : ∀ ns : List Int, DpAll K H (ns.map V.int) (ns.map PyData.int)
  | [] => .nil
  | n :: ns => .cons (.int n) (dp_ints ns)
/-- data that can be held beside others: k the depth -/
def Fine (k : Nat) (d : PyData) : Prop := PyData.canLay0 d = true ∧ PyData.depth d ≤ k
theorem canLayAll_of : ∀ {ds : List PyData}, (∀ d ∈ ds, PyData.canLay0 d = true) → PyData.canLayAll0 ds = true
  | [], _ => rfl
  | d :: ds, h => by
    show (PyData.canLay0 d && PyData.canLayAll0 ds) = true
    rw [h d List.mem_cons_self, canLayAll_of fun x hx => h x (List.mem_cons_of_mem _ hx)] <;> rfl
theorem depthAll_of {k : Nat} : ∀ {ds : List PyData}, (∀ d ∈ ds, PyData.depth d ≤ k) → PyData.depthAll ds ≤ k
  | [], _ => Nat.zero_le _
  | d :: ds, h => by
    show max (PyData.depth d) (PyData.depthAll ds) ≤ k
    exact Nat.max_le.mpr ⟨h d List.mem_cons_self, depthAll_of fun x hx => h x (List.mem_cons_of_mem _ hx)⟩
theorem Fine.list {k : Nat} {ds : List PyData} (h : ∀ d ∈ ds, Fine k d) : Fine (k + 1) (.list ds) := ⟨canLayAll_of fun d hd => (h d hd).1, Nat.succ_le_succ (depthAll_of fun d hd => (h d hd).2)⟩
theorem Fine.tuple {k : Nat} {ds : List PyData} (h : ∀ d ∈ ds, Fine k d) : Fine (k + 1) (.tuple ds) := ⟨canLayAll_of fun d hd => (h d hd).1, Nat.succ_le_succ (depthAll_of fun d hd => (h d hd).2)⟩
theorem Fine.int (i : Int) : Fine 0 (.int i) := ⟨rfl, Nat.le_refl _⟩
theorem Fine.bool (b : Bool) : Fine 0 (.bool b) := ⟨rfl, Nat.le_refl _⟩
theorem Fine.none : Fine 0 .none := ⟨rfl, Nat.le_refl _⟩
theorem Fine.str {x : Str} (h : PyData.strOk x = true) : Fine 0 (.str x) := ⟨h, Nat.le_refl _⟩
theorem Fine.mono {j k : Nat} {d : PyData} (h : Fine j d) (hk : j ≤ k) : Fine k d := ⟨h.1, Nat.le_trans h.2 hk⟩
theorem Fine.shaped {k : Nat} {d : PyData} (h : Fine k d) (hk : k ≤ 64 := by decide) : SeqAt.shaped d = true := by
  unfold SeqAt.shaped
  rw [h.1, decide_eq_true (Nat.le_trans h.2 hk)] <;> rfl
theorem fine_ints (ns : List Int) : Fine 1 (.list (ns.map PyData.int)) := Fine.list fun d hd => by
  obtain ⟨i, _, rfl⟩ := List.mem_map.mp hd
  exact Fine.int i
theorem shaped_ints (ns : List Int) : SeqAt.shaped (.list (ns.map PyData.int)) = true := (fine_ints ns).shaped
theorem eqv_nil (ds : List PyData) : PyData.eqv (.list ds) (.list []) = ds.isEmpty := by
  cases ds <;> rfl
theorem atI_mod {ns : List Int} {i : Int} (h0 : 0 ≤ i) (h1 : i < ns.length) : ∃ v, atI (ns.map V.int) i = some (.int v) := by
  obtain ⟨j, rfl⟩ := Int.eq_ofNat_of_zero_le h0
  have hj : j < ns.length := by omega
  exact ⟨ns[j], atI_nat (by rw [List.getElem?_map, List.getElem?_eq_getElem hj] <;> rfl)⟩
end Np
namespace Np
open PySem L2
/-! ### kinds of things -/
/-- a thing of a built-in kind -/
def Th (H : Hp) (v : V) : Prop := v = .non ∨ (∃ b, v = .bl b) ∨ (∃ i, v = .int i) ∨ (∃ x, v = .str x) ∨ (∃ a xs, v = .ref a ∧ H a = some (.lst xs)) ∨ (∃ a xs, v = .ref a ∧ H a = some (.tup xs)) ∨ (∃ a kvs, v = .ref a ∧ H a = some (.dK kvs))
theorem Th.mono {G H : Hp} {v : V} (s : Same G H) (h : Th G v) : Th H v := by
  rcases h with h | h | h | h | ⟨a, xs, e, h⟩ | ⟨a, xs, e, h⟩ | ⟨a, xs, e, h⟩
  · exact .inl h
  · exact .inr (.inl h)
  · exact .inr (.inr (.inl h))
  · exact .inr (.inr (.inr (.inl h)))
  · exact .inr (.inr (.inr (.inr (.inl ⟨a, xs, e, s _ _ h⟩))))
  · exact .inr (.inr (.inr (.inr (.inr (.inl ⟨a, xs, e, s _ _ h⟩)))))
  · exact .inr (.inr (.inr (.inr (.inr (.inr ⟨a, xs, e, s _ _ h⟩)))))
theorem Th.bl {H : Hp} (b : Bool) : Th H (.bl b) := .inr (.inl ⟨b, rfl⟩)
theorem Th.int {H : Hp} (i : Int) : Th H (.int i) := .inr (.inr (.inl ⟨i, rfl⟩))
theorem Th.str {H : Hp} (x : Str) : Th H (.str x) := .inr (.inr (.inr (.inl ⟨x, rfl⟩)))
theorem Th.lst {H : Hp} {a : Addr} {xs : List V} (h : H a = some (.lst xs)) : Th H (.ref a) := .inr (.inr (.inr (.inr (.inl ⟨a, xs, rfl, h⟩))))
theorem Th.tup {H : Hp} {a : Addr} {xs : List V} (h : H a = some (.tup xs)) : Th H (.ref a) := .inr (.inr (.inr (.inr (.inr (.inl ⟨a, xs, rfl, h⟩)))))
theorem Th.dK {H : Hp} {a : Addr} {xs : List (Key × V)} (h : H a = some (.dK xs)) : Th H (.ref a) := .inr (.inr (.inr (.inr (.inr (.inr ⟨a, xs, rfl, h⟩)))))
/-- isinstance by int, bool, str -/
def isK (c : String) : V → Bool
  | .str _ => c == "str"
  | .int _ => c == "int"
  | .bl _ => c == "bool" || c == "int"
  | _ => false
theorem isi_of {K : PySem.W.Frag} {H : Hp} {v : V} (h : Th H v) (c : String) (hc : c = "int" ∨ c = "str" ∨ c = "bool") : ∃ t, TyX K H v t ∧ PySem.W.kitOne K t (.type c) = some (isK c v) := by
  rcases h with rfl | ⟨b, rfl⟩ | ⟨i, rfl⟩ | ⟨x, rfl⟩ | ⟨a, xs, rfl, h⟩ | ⟨a, xs, rfl, h⟩ | ⟨a, xs, rfl, h⟩
  · exact ⟨_, .base .non, by rcases hc with rfl | rfl | rfl <;> exact kit_ty (by first | (show kitB _ _ = some true; decide +kernel) | (show kitB _ _ = some false; decide +kernel))⟩
  · exact ⟨_, .base (.bl b), by rcases hc with rfl | rfl | rfl <;> exact kit_ty (by first | (show kitB _ _ = some true; decide +kernel) | (show kitB _ _ = some false; decide +kernel))⟩
  · exact ⟨_, .base (.int i), by rcases hc with rfl | rfl | rfl <;> exact kit_ty (by first | (show kitB _ _ = some true; decide +kernel) | (show kitB _ _ = some false; decide +kernel))⟩
  · exact ⟨_, .base (.str x), by rcases hc with rfl | rfl | rfl <;> exact kit_ty (by first | (show kitB _ _ = some true; decide +kernel) | (show kitB _ _ = some false; decide +kernel))⟩
  · exact ⟨_, .base (.lst h), by rcases hc with rfl | rfl | rfl <;> exact kit_ty (by first | (show kitB _ _ = some true; decide +kernel) | (show kitB _ _ = some false; decide +kernel))⟩
  · exact ⟨_, .base (.tup h), by rcases hc with rfl | rfl | rfl <;> exact kit_ty (by first | (show kitB _ _ = some true; decide +kernel) | (show kitB _ _ = some false; decide +kernel))⟩
  · exact ⟨_, .base (.dK h), by rcases hc with rfl | rfl | rfl <;> exact kit_ty (by first | (show kitB _ _ = some true; decide +kernel) | (show kitB _ _ = some false; decide +kernel))⟩
theorem isK_str {v : V} (h : isK "str" v = true) : ∃ x, v = .str x := by
  cases v with
  | str x => exact ⟨x, rfl⟩
  | _ => exact absurd h (by first | exact Bool.false_ne_true | decide)
theorem isK_int {v : V} (h : isK "int" v = true) (h' : isK "bool" v = false) : ∃ i, v = .int i := by
  cases v with
  | int x => exact ⟨x, rfl⟩
  | bl b => exact absurd (show true = false from h') (by decide)
  | _ => exact absurd h (by first | exact Bool.false_ne_true | decide)
/-- a turn of a comprehension adds a value -/
theorem lc_add {H1 H H4 : Hp} {D : Addr} {acc : List V} {y : V} {Pv : Hp → Prop} (hD : H1 D = none) (s : Same H1 H) (s' : Same H H4) (h : H D = some (.lst acc)) (hl : acc.length < sizeLine)
    (k : Same H1 (upd H4 D (.lst (acc ++ [y]))) → (upd H4 D (.lst (acc ++ [y]))) D = some (.lst (acc ++ [y])) → Pv (upd H4 D (.lst (acc ++ [y])))) : ∃ acc, H4 D = some (.lst acc) ∧ acc.length < sizeLine ∧ Pv (upd H4 D (.lst (acc ++ [y]))) :=
  ⟨acc, s' _ _ h, hl, k (same_mut (s.trans s') hD) upd_same⟩
theorem take_succ_map {α β : Type} (f : α → β) {xs : List α} {i : Nat} {x : α} (h : xs[i]? = some x) : (xs.take (i + 1)).map f = (xs.take i).map f ++ [f x] := by
  rw [List.take_add_one, h, List.map_append] <;> rfl
theorem take_succ_filter {α : Type} (p : α → Bool) {xs : List α} {i : Nat} {x : α} (h : xs[i]? = some x) : (xs.take (i + 1)).filter p = (xs.take i).filter p ++ (if p x = true then [x] else []) := by
  rw [List.take_add_one, h, List.filter_append]
  show _ ++ List.filter p [x] = _
  rw [List.filter_cons, List.filter_nil]
theorem cutV_ints (ns : List Int) (lo hi : Option Int) : ∃ ms : List Int, cutV (ns.map V.int) lo hi = ms.map V.int := by
  unfold cutV
  rw [← List.map_drop, ← List.map_take]
  exact ⟨_, rfl⟩
theorem in_signs (c : Nat) (cs : List Nat) : inV (.str ⟨#[c]⟩) (cs.map fun c => V.str ⟨#[c]⟩) = decide (c ∈ cs) := by
  unfold inV
  induction cs with
  | nil => rfl
  | cons d cs ih =>
    rw [List.map_cons, List.any_cons, ih]
    show ((⟨#[d]⟩ : Str) == (⟨#[c]⟩ : Str) || _) = _
    by_cases h : c = d
    · subst h
      simp
    · have h2 : ((⟨#[d]⟩ : Str) == (⟨#[c]⟩ : Str)) = false := by
        rw [beq_eq_false_iff_ne]
        intro e
        injection e with e
        injection e with e
        injection e with e
        exact h e.symm
      rw [h2, Bool.false_or]
      by_cases h3 : c ∈ cs
      · rw [decide_eq_true h3, decide_eq_true (List.mem_cons_of_mem _ h3)]
      · rw [decide_eq_false h3, decide_eq_false (fun z => by exact (List.mem_cons.mp z).elim h h3)]
theorem flat_signs (cs : List Nat) : (cs.map fun c => V.str ⟨#[c]⟩).all flatV = true := by
  rw [List.all_map]
  exact List.all_eq_true.mpr fun _ _ => rfl
theorem len_add (x y : Str) : (x ++ y).length = x.length + y.length := by
  show (x.cps ++ y.cps).size = _
  rw [Array.size_append] <;> rfl
theorem len_cut (z : Str) (lo hi : Option Int) : (cutS z lo hi).length ≤ z.length := by
  unfold cutS
  show (List.toArray _).size ≤ _
  rw [List.size_toArray, List.length_take, List.length_drop, Array.length_toList]
  show _ ≤ z.cps.size
  omega
end Np
namespace Np
open PySem L2
/-! ### rules whose readings name the written part, the part written out (for a comprehension's block) -/
section
variable {X : Cx} (K : PySem.W.Frag)
theorem op_in_seqK (h : X.K = K := by rfl) : OpR X (compareOp .In) (rIn K false) := by subst h; exact op_in_seq
theorem op_notIn_seqK (h : X.K = K := by rfl) : OpR X (compareOp .NotIn) (rIn K true) := by subst h; exact op_notIn_seq
theorem op_eqDK (hu : X.A.units + 64 < cLine) (h : X.K = K := by rfl) : OpR X (compareOp .Eq) (rEqD K) := by subst h; exact op_eqD hu
theorem op_neDK (hu : X.A.units + 64 < cLine) (h : X.K = K := by rfl) : OpR X (compareOp .NotEq) (rNeD K) := by subst h; exact op_neD hu
theorem op_catTK (h : X.K = K := by rfl) : OpR X (binaryOp .Add) (rCatT K) := by subst h; exact op_catT
theorem ix_listK (h : X.K = K := by rfl) : IxR X (rIxL K) := by subst h; exact ix_list
theorem ix_tupK (h : X.K = K := by rfl) : IxR X (rIxT K) := by subst h; exact ix_tup
theorem sl_listK (h : X.K = K := by rfl) : SlR X (rSlL K) := by subst h; exact sl_list
theorem sl_tupK (h : X.K = K := by rfl) : SlR X (rSlT K) := by subst h; exact sl_tup
def rLenK : List V → Hp → VK → Prop := fun xs H Q => ∃ p ys, xs = [.ref p] ∧ (SqL K H p ys ∨ SqT K H p ys) ∧ Q (.int ys.length) H
theorem call_lenK (h : X.K = K := by rfl) : CallR X (.builtin "len") (rLenK K) := by subst h; exact call_len_seq
def rListK : List V → Hp → VK → Prop := fun xs H Q => ∃ p ys, xs = [.ref p] ∧ (SqL K H p ys ∨ SqT K H p ys) ∧ ∀ l, H l = none → Q (.ref l) (upd H l (.lst ys))
theorem call_listK (h : X.K = K := by rfl) : CallR X (.type "list") (rListK K) := by subst h; exact call_list_of
def rTupleK : List V → Hp → VK → Prop := fun xs H Q => ∃ p ys, xs = [.ref p] ∧ ((SqL K H p ys ∧ ∀ l, H l = none → Q (.ref l) (upd H l (.tup ys))) ∨ (SqT K H p ys ∧ Q (.ref p) H))
theorem call_tupleK (h : X.K = K := by rfl) : CallR X (.type "tuple") (rTupleK K) := by subst h; exact call_tuple_of
theorem cr_sumK (hc : X.calm = true) (h : X.K = K := by rfl) : CallR X (.builtin "sum") (rSum K) := by subst h; exact cr_sum hc
theorem cr_maxK (hc : X.calm = true) (h : X.K = K := by rfl) : CallR X (.builtin "max") (rMax K) := by subst h; exact cr_max hc
theorem cr_minK (hc : X.calm = true) (h : X.K = K := by rfl) : CallR X (.builtin "min") (rMin K) := by subst h; exact cr_min hc
theorem cr_allK (hc : X.calm = true) (h : X.K = K := by rfl) : CallR X (.builtin "all") (rAll K) := by subst h; exact cr_all hc
theorem cr_anyK (hc : X.calm = true) (h : X.K = K := by rfl) : CallR X (.builtin "any") (rAny K) := by subst h; exact cr_any hc
theorem call_isiKK (h : X.K = K := by rfl) : CallR X (.builtin "isinstance") (rIsi K) := by subst h; exact call_isi
theorem call_isiTK (h : X.K = K := by rfl) : CallR X (.builtin "isinstance") (rIsiT K) := by subst h; exact call_isiT
theorem pi_listK {tg l : Expr} {tl : TE} (hl : PE X l tl) (h : X.K = K := by rfl) : PI X tg l (iList K tl) := by subst h; exact pi_list hl
theorem pi_tupK {tg l : Expr} {tl : TE} (hl : PE X l tl) (h : X.K = K := by rfl) : PI X tg l (iTup K tl) := by subst h; exact pi_tup hl
theorem pi_enumK {e : Expr} {ta : TA} {p pos tpos : Pos} {elts : List Expr} {kk : Nat} (hg : Gl X "enumerate") (hm : X.mg "enumerate" = none) (ha : PA X [e] ta) (hs : starEach [e] X.env = [(false, eval e X.env)] := by rfl) (h : X.K = K := by rfl) :
    PI X (.Tuple elts kk tpos) (.Call (.Name "enumerate" p) [e] [] pos) (iEnum K ta) := by subst h; exact pi_enum hg hm ha hs
theorem pi_zipK {e e2 : Expr} {ta : TA} {p pos tpos : Pos} {elts : List Expr} {kk : Nat} (hg : Gl X "zip") (hm : X.mg "zip" = none) (ha : PA X [e, e2] ta)
    (hs : starEach [e, e2] X.env = (false, eval e X.env) :: starEach [e2] X.env := by rfl) (hpl : (backTo pos (starEach [e2] X.env)).any (·.1) = false := by rfl) (h : X.K = K := by rfl) :
    PI X (.Tuple elts kk tpos) (.Call (.Name "zip" p) [e, e2] [] pos) (iZip K ta) := by subst h; exact pi_zip hg hm ha hs hpl
theorem pi_reversedK {tg e : Expr} {ta : TA} {p pos : Pos} (hg : Gl X "reversed") (hm : X.mg "reversed" = none) (ha : PA X [e] ta) (hs : starEach [e] X.env = [(false, eval e X.env)] := by rfl) (h : X.K = K := by rfl) :
    PI X tg (.Call (.Name "reversed" p) [e] [] pos) (iRev K ta) := by subst h; exact pi_reversed hg hm ha hs
theorem pg_tupK {es : List Expr} {k n : Nat} {t : TGs} {pos : Pos} (hc : X.calm = true) (h' : PGs X es t)
    (hn : (assignEach es X.env).length = n := by rfl) (hst : (assignEach es X.env).findIdx? (·.1) = none := by rfl) (h : X.K = K := by rfl) : PG X (.Tuple es k pos) (gTup K n t) := by subst h; exact pg_tup hc h' hn hst
def rJoinK : V → List V → Hp → VK → Prop := fun x xs H Q => ∃ a p, ∃ ys : List Str, x = .str a ∧ xs = [.ref p] ∧ (SqL K H p (ys.map V.str) ∨ SqT K H p (ys.map V.str)) ∧
      (ys.map (·.length)).sum + ys.length * a.length ≤ 16777216 ∧ Q (.str (Txt.join a ys)) H
theorem pe_joinK {o e : Expr} {to te : TE} {apos pos : Pos} (ho : PE X o to) (he : PE X e te) (hs : starEach [e] X.env = [(false, eval e X.env)] := by rfl) (hbase : attributeBase o "join" X.env (eval o X.env) = eval o X.env := by rfl) (hline : (apos.endLine == pos.line) = true := by rfl) (h : X.K = K := by rfl) :
    PE X (.Call (.Attribute o "join" apos) [e] [] pos) (tM1 (rJoinK K) to te) := by subst h; exact pe_join ho he hs hbase hline
theorem pe_bmK {T : String} {name : Str} {id : String} {r : V → List V → Hp → VK → Prop} {o e : Expr} {es : List Expr} {to : TE} {t : TA} {apos cpos : Pos} (pa : PlainAttrs T) (slot : Slot T name id) (hty : typeOf (.builtin id) = pure (.type "method_descriptor")) (hm : MtR X id r) (ho : PE X o to) (ha : PA X (e :: es) t)
    (hbase : attributeBase o name X.env (eval o X.env) = eval o X.env := by rfl)
    (hfew : ((backTo cpos (starEach (e :: es) X.env)).all (fun x => !x.1) && (backToKw cpos (keywordEach [] X.env)).all (fun x => x.1.isSome)
      && decide ((e :: es).length + ([] : List Keyword).length + (if ([] : List Keyword).isEmpty then 0 else 1) < 30)) = true := by rfl)
    (hline : (apos.endLine == cpos.line) = true := by rfl) (hs : starEach (e :: es) X.env = (false, eval e X.env) :: starEach es X.env := by rfl) (hplain : (backTo cpos (starEach es X.env)).any (·.1) = false := by rfl) (h : X.K = K := by rfl) :
    PE X (.Call (.Attribute o name apos) (e :: es) [] cpos) (tBM K T r to t) := by subst h; exact pe_bm pa slot hty hm ho ha hbase hfew hline hs hplain
theorem pe_bm0K {T : String} {name : Str} {id : String} {r : V → List V → Hp → VK → Prop} {o : Expr} {to : TE} {apos cpos : Pos} (pa : PlainAttrs T) (slot : Slot T name id) (hty : typeOf (.builtin id) = pure (.type "method_descriptor")) (hm : MtR X id r) (ho : PE X o to)
    (hbase : attributeBase o name X.env (eval o X.env) = eval o X.env := by rfl) (hline : (apos.endLine == cpos.line) = true := by rfl) (h : X.K = K := by rfl) : PE X (.Call (.Attribute o name apos) [] [] cpos) (tBM0 K T r to) := by subst h; exact pe_bm0 pa slot hty hm ho hbase hline
end
end Np
namespace Np
open PySem L2
/-! ### texts: how long at most, right signs -/
structure Tx (n : Nat) (x : Str) : Prop where
  len : x.length ≤ n
  ok : ∀ c ∈ x.cps.toList, c < 1114112
theorem Tx.strOk {n : Nat} {x : Str} (h : Tx n x) : PyData.strOk x = true := by
  unfold PyData.strOk
  rw [← Array.all_toList]
  exact List.all_eq_true.mpr fun c hc => decide_eq_true (h.ok c hc)
theorem Tx.mono {n m : Nat} {x : Str} (h : Tx n x) (hm : n ≤ m) : Tx m x := ⟨Nat.le_trans h.len hm, h.ok⟩
theorem Tx.add {n m : Nat} {x y : Str} (h : Tx n x) (h' : Tx m y) : Tx (n + m) (x ++ y) := by
  refine ⟨by rw [len_add]; exact Nat.add_le_add h.len h'.len, fun c hc => ?_⟩
  have e : (x ++ y).cps.toList = x.cps.toList ++ y.cps.toList := by
    show (x.cps ++ y.cps).toList = _
    rw [Array.toList_append]
  rw [e] at hc
  rcases List.mem_append.mp hc with q | q
  · exact h.ok c q
  · exact h'.ok c q
theorem Tx.cut {n : Nat} {x : Str} (h : Tx n x) (lo hi : Option Int) : Tx n (cutS x lo hi) := by
  refine ⟨Nat.le_trans (len_cut x lo hi) h.len, fun c hc => ?_⟩
  unfold cutS at hc
  exact h.ok c (List.mem_of_mem_drop (List.mem_of_mem_take hc))
theorem Tx.sign {c : Nat} (h : c < 1114112) : Tx 1 (⟨#[c]⟩ : Str) := ⟨Nat.le_refl _, fun d hd => by
  have e : d = c := List.mem_singleton.mp hd
  rw [e]
  exact h⟩
theorem atI_mem {α : Type} {xs : List α} {i : Int} {v : α} (h : atI xs i = some v) : v ∈ xs := by
  obtain ⟨j, _, hj, _⟩ := atI_get h
  exact List.mem_of_getElem? hj
theorem atI_some {α : Type} {xs : List α} {i : Int} (h0 : 0 ≤ i) (h1 : i < xs.length) : ∃ v, atI xs i = some v ∧ v ∈ xs := by
  obtain ⟨j, rfl⟩ := Int.eq_ofNat_of_zero_le h0
  have hj : j < xs.length := by omega
  exact ⟨xs[j], atI_nat (List.getElem?_eq_getElem hj), List.getElem_mem hj⟩
theorem Tx.at {n : Nat} {x : Str} {i : Int} {c : Nat} (h : Tx n x) (e : atI x.cps.toList i = some c) : Tx 1 (⟨#[c]⟩ : Str) := Tx.sign (h.ok c (atI_mem e))
theorem ofString_ok (s : String) : ∀ c ∈ (Str.ofString s).cps.toList, c < 1114112 := fun c hc => by
  rw [Str.ofString_eq_toList] at hc
  obtain ⟨d, _, rfl⟩ := List.mem_map.mp hc
  have h := d.valid
  have e : d.toNat = d.val.toNat := rfl
  rcases h with h | ⟨_, h⟩ <;> omega
theorem ofString_len (s : String) : (Str.ofString s).length = s.length := by
  rw [Str.ofString_eq_toList]
  show (List.toArray _).size = _
  rw [List.size_toArray, List.length_map, String.length_toList]
theorem Tx.num {i : Int} {k : Nat} (hk : 0 < k) (h : i.natAbs < 10 ^ k) : Tx (k + 1) (Str.ofString (toString i)) :=
  ⟨by rw [ofString_len]; exact int_text_length_le10 hk h, ofString_ok _⟩
theorem Tx.lit {n : Nat} (s : String) (h : (Str.ofString s).length ≤ n) : Tx n (Str.ofString s) := ⟨h, ofString_ok s⟩
theorem dp_strs {K : PySem.W.Frag} {H : Hp} : ∀ xs : List Str, DpAll K H (xs.map V.str) (xs.map PyData.str)
  | [] => .nil
  | x :: xs => .cons (.str x) (dp_strs xs)
theorem fine_strs {xs : List Str} (h : ∀ x ∈ xs, PyData.strOk x = true) : Fine 1 (.list (xs.map PyData.str)) := Fine.list fun d hd => by
  obtain ⟨x, hx, rfl⟩ := List.mem_map.mp hd
  exact Fine.str (h x hx)
end Np
namespace Np
open PySem L2
/-! ### all but one object is as it was -/
def But (t : Addr) (H H' : Hp) : Prop := ∀ b o, b ≠ t → H b = some o → H' b = some o
theorem But.refl {t : Addr} {H : Hp} : But t H H := fun _ _ _ h => h
theorem But.trans {t : Addr} {H H1 H2 : Hp} (a : But t H H1) (b : But t H1 H2) : But t H H2 := fun c o n h => b c o n (a c o n h)
theorem But.of {t : Addr} {H H' : Hp} (s : Same H H') : But t H H' := fun b o _ h => s b o h
theorem But.mut {t : Addr} {H : Hp} {o : HO} : But t H (upd H t o) := fun b u n h => by rw [upd_ne n]; exact h
theorem But.new {t p : Addr} {H : Hp} {o : HO} (n : H p = none) : But t H (upd H p o) := But.of (same_new n)
theorem But.same {t : Addr} {G H H' : Hp} (b : But t H H') (s : Same G H) (g : G t = none) : Same G H' := fun a o h => b a o (ne_of_none h g) (s a o h)
/-- a tape at tp, over what stays (G): its cells, how many were begun (at most n), what is left of a great one -/
def Tape (K : PySem.W.Frag) (G H : Hp) (tp : Addr) (n : Nat) : Prop := Same G H ∧ G tp = none ∧ ∃ (c : Addr) (ns : List Int) (at' left : Int),
  SqL K G c (ns.map V.int) ∧ H tp = some (.lst [.ref c, .int at', .int left]) ∧ 0 ≤ at' ∧ at' ≤ n ∧ 0 ≤ left
section
variable {K : PySem.W.Frag} {G H H' : Hp} {tp p : Addr} {n m : Nat} {o : HO}
theorem Tape.step {c : Addr} {ns : List Int} {a b : Int} (s : Same G H) (g : G tp = none) (hc : SqL K G c (ns.map V.int)) (h0 : 0 ≤ a) (h1 : a ≤ n) (h2 : 0 ≤ b) :
    Tape K G (upd H tp (.lst [.ref c, .int a, .int b])) tp n := ⟨same_mut s g, g, c, ns, a, b, hc, upd_same, h0, h1, h2⟩
theorem Tape.at (t : Tape K G H tp n) : ∃ xs, H tp = some (.lst xs) := by
  obtain ⟨_, _, c, ns, a, b, _, h, _⟩ := t
  exact ⟨_, h⟩
theorem Tape.ex (t : Tape K G H tp n) : ∃ u, H tp = some u := by
  obtain ⟨xs, h⟩ := t.at
  exact ⟨_, h⟩
theorem Tape.ne (t : Tape K G H tp n) (h : H p = none) : p ≠ tp := by
  obtain ⟨xs, e⟩ := t.at
  exact fun z => by rw [z, e] at h; cases h
theorem Tape.new (t : Tape K G H tp n) (h : H p = none) : Tape K G (upd H p o) tp n := by
  have e := t.ne h
  obtain ⟨s, g, c, ns, a, b, hc, hT, r⟩ := t
  exact ⟨s.trans (same_new h), g, c, ns, a, b, hc, by rw [upd_ne e.symm]; exact hT, r⟩
/-- another object, that does not stay, changes -/
theorem Tape.mut (t : Tape K G H tp n) (g' : G p = none) (e : p ≠ tp) : Tape K G (upd H p o) tp n := by
  obtain ⟨s, g, c, ns, a, b, hc, hT, r⟩ := t
  exact ⟨same_mut s g', g, c, ns, a, b, hc, by rw [upd_ne e.symm]; exact hT, r⟩
/-- an object stays from now on -/
theorem Tape.keep (t : Tape K G H tp n) (h : H p = some o) (e : p ≠ tp) (g' : G p = none) : Tape K (upd G p o) H tp n := by
  obtain ⟨s, g, c, ns, a, b, hc, hT, r⟩ := t
  refine ⟨fun q u hq => ?_, by rw [upd_ne e.symm]; exact g, c, ns, a, b, (same_new g').seq hc, hT, r⟩
  by_cases z : q = p
  · subst z
    rw [upd_same] at hq
    rw [← hq]
    exact h
  · rw [upd_ne z] at hq
    exact s q u hq
/-- a new object that stays -/
theorem Tape.newK (t : Tape K G H tp n) (h : H p = none) : Tape K (upd G p o) (upd H p o) tp n :=
  (t.new h).keep upd_same (t.ne h) (t.1.free h)
theorem Tape.mono (t : Tape K G H tp n) (h : n ≤ m) : Tape K G H tp m := by
  obtain ⟨s, g, c, ns, a, b, hc, hT, h0, h1, h2⟩ := t
  exact ⟨s, g, c, ns, a, b, hc, hT, h0, by omega, h2⟩
theorem Tape.free (t : Tape K G H tp n) (h : H p = none) : G p = none := t.1.free h
end
def spDraw (K : PySem.W.Frag) : Sp := fun vs H Q _ => ∃ (G : Hp) (tp : Addr) (n : Nat) (many : Int), vs = [.ref tp, .int many] ∧ Tape K G H tp n ∧ 0 < many ∧ many < 1073741824 ∧ n < 2 ^ 60 ∧
  ∀ r H', 0 ≤ r → r < many → But tp H H' → Tape K G H' tp (n + 1) → Q (.int r) H'
end Np
namespace Np
open PySem L2
theorem Tape.same {K : PySem.W.Frag} {G H H' : Hp} {tp : Addr} {n : Nat} (t : Tape K G H tp n) (s : Same H H') : Tape K G H' tp n := by
  obtain ⟨s0, g, c, ns, a, b, hc, hT, r⟩ := t
  exact ⟨s0.trans s, g, c, ns, a, b, hc, s _ _ hT, r⟩
theorem Tx.empty : Tx 0 (⟨#[]⟩ : Str) := ⟨Nat.le_refl _, fun c hc => by cases hc⟩
theorem Tx.join0 : ∀ {ys : List Str}, (∀ y ∈ ys, Tx 1 y) → Tx ys.length (Txt.join ("" : Str) ys)
  | [], _ => by
    rw [TL.join_eq]
    exact Tx.empty
  | [x], h => by
    rw [TL.join_eq]
    exact h x List.mem_cons_self
  | x :: z :: r, h => by
    have ih := Tx.join0 (ys := z :: r) fun y hy => h y (List.mem_cons_of_mem _ hy)
    rw [TL.join_eq] at ih ⊢
    show Tx _ (x ++ ("" : Str) ++ Str.join ("" : Str) (z :: r))
    exact (((h x List.mem_cons_self).add Tx.empty).add ih).mono (by simp only [List.length_cons]; omega)
theorem lens_le {n : Nat} : ∀ {ys : List Str}, (∀ y ∈ ys, Tx n y) → (ys.map (·.length)).sum ≤ ys.length * n
  | [], _ => Nat.zero_le _
  | y :: ys, h => by
    have ih := lens_le (ys := ys) fun z hz => h z (List.mem_cons_of_mem _ hz)
    have h1 := (h y List.mem_cons_self).len
    rw [List.map_cons, List.sum_cons, List.length_cons, Nat.succ_mul]
    omega
end Np
namespace Np
open PySem L2
theorem Tape.grow {K : PySem.W.Frag} {G H : Hp} {tp p : Addr} {n : Nat} {o : HO} (t : Tape K G H tp n) (h : H p = none) : ∃ G1, Same G G1 ∧ G1 p = some o ∧ Tape K G1 (upd H p o) tp n :=
  ⟨upd G p o, same_new (t.free h), upd_same, t.newK h⟩
end Np
namespace Np
open PySem PySem.Spec PyProof.Rows L2
/-! ### text[::-1] -/
def revS (z : Str) : Str := ⟨z.cps.toList.reverse.toArray⟩
def tRevS (te : TE) : TE := fun σ H Q => te σ H fun x H1 => ∃ z, x = .str z ∧ z.length ≤ sizeLine ∧ Q (.str (revS z)) H1
theorem pe_revS {X : Cx} {e : Expr} {te : TE} {k : Nat} {p1 p2 p3 pos : Pos} (he : PE X e te) : PE X (.Subscript e (.Slice none none (some (.UnaryOp .USub (.Constant (.int 1) k p1) p2)) p3) pos) (tRevS te) := by
  refine ⟨fun pins s σ H Q I h => ?_⟩
  refine Subscript_ (L2.thn (he.run pins s σ H _ I h) fun v s1 ⟨x, H1, I1, r1, q1⟩ => ?_)
  obtain ⟨z, ex, hz, q⟩ := q1
  subst ex
  obtain ⟨t, rfl⟩ := r1
  have hst : PO X (some (.UnaryOp .USub (.Constant (.int 1) k p1) p2)) (tPart (tUn (rU fun i => .int (-i)) (tC (.int 1)))) := po_some (pe_un un_neg pe_int)
  refine wpAny_Slice (L2.thn (po_none.run pins s1 σ H1 (fun o H2 => o = none ∧ H2 = H1) I1 ⟨rfl, rfl⟩) fun vl s2 ⟨l, H2, I2, pl, el, e2⟩ => ?_)
  subst el e2
  refine L2.thn (po_none.run pins s2 σ H2 (fun o H3 => o = none ∧ H3 = H2) I2 ⟨rfl, rfl⟩) fun vu s3 ⟨u, H3, I3, pu, eu, e3⟩ => ?_
  subst eu e3
  refine L2.thn (hst.run pins s3 σ H3 (fun o H4 => o = some (-1) ∧ H4 = H3) I3 ⟨1, rfl, -1, rfl, rfl, rfl⟩) fun vs s4 ⟨o, H4, I4, ps, eo, e4⟩ => ?_
  subst eo e4
  have I5 : Inv X pins σ H4 { s4 with heap := s4.heap.push { cls := .type "slice", data := .fields #[vl, vu, vs] } } := I4.kept (t' := s4.toks) fun b ob q => Heap.get?_push_of_some _ q
  show wpAny (model X.prog X.w) X.A (subscriptTail e (.Slice none none (some (.UnaryOp .USub (.Constant (.int 1) k p1) p2)) p3) (.str z t) (.ref s4.heap.objs.size)) (EP X pins σ Q) X.xe { s4 with heap := s4.heap.push { cls := .type "slice", data := .fields #[vl, vu, vs] } }
  refine tail_any (ops := [.str z t, .ref s4.heap.objs.size]) (typeIs_str _ _ _) (PySem.F.slot_str_getitem.lookup) ?_ (by with_unfolding_all rfl)
  obtain ⟨l', rfl, el⟩ := IsPart.raw pl
  obtain ⟨u', rfl, eu⟩ := IsPart.raw pu
  obtain ⟨st', rfl, es⟩ := IsPart.raw ps
  have hl : l' = none := by cases l' with | none => rfl | some p => exact nomatch el
  have hu : u' = none := by cases u' with | none => rfl | some p => exact nomatch eu
  subst hl hu
  obtain ⟨⟨m, tk⟩, rfl⟩ : ∃ p, st' = some p := by cases st' with | none => exact nomatch es | some p => exact ⟨p, rfl⟩
  obtain rfl : m = -1 := Option.some.inj es
  have isl : (s4.heap.push { cls := .type "slice", data := .fields #[partValue none, partValue none, partValue (some (-1, tk))] }).IsSlice s4.heap.objs.size none none (some (-1, tk)) :=
    ⟨_, Heap.get?_push_size _ rfl, rfl, rfl⟩
  refine wpAny_getItem_str_slice (l := none) (u := none) (st := some (-1, tk)) isl rfl ?_
  have e : Builtin.Str.strSliceIndices none none (-1) z.length = (List.range z.length).map fun k => z.length - 1 - k := PySem.W.krv_sliceRange z.length
  have e2 : ((List.range z.length).map fun k => z.length - 1 - k).filterMap (z.cps[·]?) = z.cps.toList.reverse := by
    rw [PySem.W.krv_range, List.filterMap_reverse]
    have := PySem.W.krv_all z.cps
    exact congrArg List.reverse this
  show Made.post (if ((-1 : Int) == 1 && (Builtin.Str.strSliceIndices none none (-1) z.length).length == z.length) = true then Made.val (.str z t)
    else Made.str ⟨((Builtin.Str.strSliceIndices none none (-1) z.length).filterMap (z.cps[·]?)).toArray⟩) (EP X pins σ Q) _
  rw [if_neg (by simp), e, e2]
  refine ⟨?_, .str _, H4, I5.tok _, ⟨_, rfl⟩, q⟩
  show (List.toArray _).size ≤ _
  rw [List.size_toArray, List.length_reverse, Array.length_toList]
  exact hz
theorem Tx.rev {n : Nat} {x : Str} (h : Tx n x) : Tx n (revS x) := by
  refine ⟨?_, fun c hc => h.ok c (List.mem_reverse.mp hc)⟩
  show (List.toArray _).size ≤ _
  rw [List.size_toArray, List.length_reverse, Array.length_toList]
  exact h.len
theorem pe_revLK {X : Cx} (K : PySem.W.Frag) {e : Expr} {te : TE} {k : Nat} {p1 p2 p3 pos : Pos} (he : PE X e te) (h : X.K = K := by rfl) : PE X (.Subscript e (.Slice none none (some (.UnaryOp .USub (.Constant (.int 1) k p1) p2)) p3) pos) (tRevL K te) := by subst h; exact pe_revL he
/-- slices of lists of texts -/
theorem cutV_strs (ys : List Str) (lo hi : Option Int) : ∃ zs : List Str, cutV (ys.map V.str) lo hi = zs.map V.str ∧ (∀ z ∈ zs, z ∈ ys) ∧ zs.length ≤ ys.length := by
  unfold cutV
  rw [← List.map_drop, ← List.map_take]
  exact ⟨_, rfl, fun z hz => List.mem_of_mem_drop (List.mem_of_mem_take hz), by rw [List.length_take, List.length_drop]; omega⟩
end Np
namespace Np
open PySem L2
theorem Tx.size {n : Nat} {x : Str} (h : Tx n x) (hs : n ≤ 16777216 := by omega) : x.length ≤ sizeLine := by
  rw [sizeLine_eq]
  exact Nat.le_trans h.len hs
theorem Tx.fit {n m : Nat} {x y : Str} (h : Tx n x) (h' : Tx m y) (hs : n + m ≤ 16777216 := by omega) : x.length + y.length ≤ sizeLine := by
  rw [sizeLine_eq]
  exact Nat.le_trans (Nat.add_le_add h.len h'.len) hs
theorem size_of {n : Nat} (h : n ≤ 16777216 := by omega) : n ≤ sizeLine := by rw [sizeLine_eq]; exact h
theorem size_lt {n : Nat} (h : n < 16777216 := by omega) : n < sizeLine := by rw [sizeLine_eq]; exact h
theorem toList_add (x y : Str) : (x ++ y).cps.toList = x.cps.toList ++ y.cps.toList := by
  show (x.cps ++ y.cps).toList = _
  rw [Array.toList_append]
theorem nl_eq : (Str.ofString "\n") = (⟨#[10]⟩ : Str) := by decide +kernel
theorem eqv_refl {k : Nat} {d : PyData} (h : Fine k d) : PyData.eqv d d = true := SeqAt.eqv_refl d h.1
end Np
namespace Np
open PySem L2
theorem But.free {t p : Addr} {H H' : Hp} (b : But t H H') (h : H' p = none) (e : p ≠ t) : H p = none := by
  cases q : H p with
  | none => rfl
  | some o => rw [b p o e q] at h; cases h
theorem But.mutN {t p : Addr} {H H' : Hp} {o : HO} (b : But t H H') (h : H p = none) : But t H (upd H' p o) := fun a u n e => by
  rw [upd_ne (ne_of_none e h)]
  exact b a u n e
end Np

set_option Elab.async false
set_option linter.all false
set_option maxRecDepth 100000
set_option maxHeartbeats 4000000
namespace Np
open PySem PySem.Spec PyProof.Rows L2

/-! ### an exception that is kept: tracked, by its object -/
def exk (a : Addr) (oe : Obj) : HO := .ext fun h => h.get? a = some oe
theorem exk_ok {P : Program} {w : World} {H : Hp} {h : Heap} {a : Addr} {oe : Obj} (e : h.get? a = some oe) : ObjOk P w H h a (exk a oe) :=
  ⟨e, ⟨oe, e⟩, fun _ _ z keep => keep _ z⟩
theorem exk_at {P : Program} {w : World} {H : Hp} {h : Heap} {a : Addr} {oe : Obj} (hok : HOk P w H h) (e : H a = some (exk a oe)) : h.get? a = some oe := by
  have x : ObjOk P w H h a (.ext fun h => h.get? a = some oe) := hok a _ e
  exact x.1
section
variable {X : Cx} {pins : List (Addr × Obj)} {σ : L2.St} {H : Hp} {s : Shared} {a : Addr} {oe : Obj} {vs : Array Value}
/-- an object of fields, new behind the entry and tracked by nobody, is tracked from now on -/
theorem track (I : L2.Inv X pins σ H s) (e : s.heap.get? a = some oe) (hd : oe.data = .fields vs) (na : H a = none) (n0 : X.s_0.heap.get? a = none) (nL : a ≠ X.env.locals) (nP : ∀ p ∈ X.pn ++ pins, p.1 ≠ a) :
    L2.Inv X pins σ (upd H a (exk a oe)) s := by
  have ne_some : ∀ {b : Addr} {u : HO}, H b = some u → b ≠ a := fun hb => ne_of_none hb na
  refine ⟨I.ok, I.os, I.bare, ?_, I.loc, I.cell, ?_, ?_, ?_, ?_, I.len⟩
  · refine ⟨I.base.keep, I.base.slot, fun b o q n x => ?_, I.base.there, fun b xs q => ?_, fun b o u q => ?_, fun b ps q => ?_⟩
    · have hb : b ≠ a := fun z => by rw [z, n0] at q; cases q
      rw [upd_ne hb]
      exact I.base.free b o q n x
    · have q' := I.base.tups b xs q
      rw [upd_ne (ne_some q')]
      exact q'
    · have q' := I.base.frzs b o u q
      rw [upd_ne (ne_some q')]
      exact q'
    · obtain ⟨more, q'⟩ := I.base.tbls b ps q
      exact ⟨more, by rw [upd_ne (ne_some q')]; exact q'⟩
  · rw [upd_ne (Ne.symm nL)]
    exact I.free
  · intro x c hc
    have hca : c ≠ a := fun z => by
      obtain ⟨v, o, ho, hcell⟩ := I.cell x c hc
      rw [z, e] at ho
      cases ho
      rw [hd] at hcell
      exact nomatch hcell
    rw [upd_ne hca]
    exact I.freeC x c hc
  · intro p hp
    obtain ⟨p1, p2, p3⟩ := I.pin p hp
    exact ⟨p1, by rw [upd_ne (nP p hp)]; exact p2, p3⟩
  · intro b o q
    by_cases hb : b = a
    · subst hb
      rw [upd_same] at q
      cases q
      exact exk_ok e
    · rw [upd_ne hb] at q
      exact (I.hok b o q).stay (fun _ _ _ z => z) (fun c hc => by rw [upd_ne (ne_some hc)]; exact hc) (fun c xs hc => by rw [upd_ne (ne_some hc)]; exact hc)
end
section
variable {X : Cx} {body suite : List Stmt} {b₀ : Stmt} {x n : Str} {i : Nat} {c : Value} {np pos' pos : Pos} {tb : WX → TS} {ts : Addr → Value → Option Addr → TS} {Wout : WX}
/-- the ends of the suite of a clause whose exception is kept: its name goes, the exception is tracked -/
def endsK (a : Addr) (oe : Obj) (i : Nat) (D : Ends) : Ends :=
  ⟨fun σ' H' => D.nx (σ'.set i none) (upd H' a (exk a oe)), fun v H' => D.rt v (upd H' a (exk a oe)), fun σ' H' => D.bk (σ'.set i none) (upd H' a (exk a oe)), fun σ' H' => D.ct (σ'.set i none) (upd H' a (exk a oe))⟩
/-- what 'except x as n' wishes, the exception kept -/
def wKeep (K : PySem.W.Frag) (c : Value) (i : Nat) (ts : Addr → Value → Option Addr → TS) (Wout : WX) (D : Ends) : WX := fun cls d σ H =>
  ∃ b, PySem.W.exmOne K cls c = some b ∧ (b = true → ∀ a oe vs, H a = none → Zc cls d oe → oe.data = .fields vs → ts a cls d (endsK a oe i D) (σ.set i (some (.ref a))) H) ∧ (b = false → Wout cls d σ H)
theorem ps_try_keep (hstk : X.stack = X.env :: X.outer) (hfrm : X.env.frame = some X.env.locals) (hex : X.ex = []) (hnd : X.N.Nodup) (hix : X.N[i]? = some n) (hkind : X.env.kindOf n = some .local) (hcls : Names X x c) (tk : Takes X Wout)
    (hbody : ∀ (W : WX) (pn : List (Addr × Obj)) (xe : Value → Shared → Prop), Takes (X.tr pn xe) W → PassesOwn (model X.prog X.w) X.A X.env xe → PSs (X.tr pn xe) body (tb W))
    (hsuite : ∀ (a : Addr) (oe : Obj) (cls : Value) (d : Option Addr) (pn : List (Addr × Obj)), Zc cls d oe → (∃ vs, oe.data = .fields vs) → PSs (X.suite a ((a, oe) :: pn)) (b₀ :: suite) (ts a cls d)) :
    PS X (.Try body [.ExceptHandler (some (.Name x np)) (some n) (b₀ :: suite) pos'] [] [] pos) (fun D σ H => tb (wKeep X.K c i ts Wout D) D σ H) := by
  refine ⟨fun pins s σ H D I hread => ?_⟩
  have okX := I.ok
  have fr0 : X.A.frames = some (X.env :: X.outer) := by rw [okX.frames, hstk]
  refine wpAny_Try_except ?_
  refine wpAny_mono ((hbody (wKeep X.K c i ts Wout D) (X.pn ++ pins) (fun er s₁ => wpAny (model X.prog X.w) X.A (noteFrame er X.env) (fun _ s₂ => wpAny (model X.prog X.w) X.A (setFlight er none) (fun _ s₃ =>
    wpAny (model X.prog X.w) X.A (handleBy er X.env [.ExceptHandler (some (.Name x np)) (some n) (b₀ :: suite) pos']) (SP X pins D) X.xe s₃) X.xe s₂) X.xe s₁) (fun u s' air => ?_) PassesOwn.looking).run [] s σ H D (I.toTry _) hread) (fun fl s1 hsp => ?_) (fun _ _ z => z)
  · obtain ⟨a, B, sI, pins', σ', H', cls, d, rfl, J', inB, up, sky, na, eos, gs, b, hb, yes, no⟩ := air
    have J : L2.Inv X pins σ' H' sI := J'.ofTry okX
    have sky1 : Sky B (X.env :: X.outer) a (Zc cls d) X.env.locals s'.heap := by rw [← hstk]; exact sky
    show wpAny (model X.prog X.w) X.A (noteFrame (.ref a) X.env) _ _ _
    refine Sky.land Zc.steady fr0 hfrm sky1 fun h3 f3 up3 => ?_
    have J3 : L2.Inv X pins σ' H' { s' with heap := h3 } := J.landed inB f3.1 (up.trans up3) eos gs
    obtain ⟨oe3, vs3, at3, z3, dat3⟩ := f3.there
    have outside : a ∉ frs (X.env :: X.outer) := fun hm => by
      obtain ⟨_, o', e', hnf⟩ := f3.2.2.1.mem hm
      rw [at3] at e'
      cases e'
      exact hnf _ dat3
    have nL : a ≠ X.env.locals := fun z => outside (List.mem_filterMap.mpr ⟨X.env, List.mem_cons_self, by rw [hfrm, z]⟩)
    have nF : a ∉ X.fs := fun hm => by
      obtain ⟨en, hen, q⟩ := List.mem_filterMap.mp hm
      exact outside (List.mem_filterMap.mpr ⟨en, List.mem_cons_of_mem _ hen, q⟩)
    have notI : sI.heap.get? a = none := by
      cases q : sI.heap.get? a with
      | none => rfl
      | some o =>
        have q2 := inB a o q (by rw [hstk]; exact outside)
        rw [f3.2.1] at q2
        cases q2
    have not0 : X.s_0.heap.get? a = none := by
      cases q : X.s_0.heap.get? a with
      | none => rfl
      | some o =>
        obtain ⟨o', q2⟩ := J.base.there a o q (by rw [hex]; simp)
        rw [notI] at q2
        cases q2
    have notP : ∀ p ∈ X.pn ++ pins, p.1 ≠ a := fun p hp z => by
      have q := (J.pin p hp).1
      rw [z, notI] at q
      cases q
    have S3 := J3.suite at3 dat3 na nL nF
    refine wpAny_handleBy_cons (codeAny_handlers_test ?_) (by intro q; cases q)
    have look1 : PySem.W.Looks (model X.prog X.w) h3 (typeOf (.ref a)) cls := fun A Q E s k q => wpAny_typeOf_ref (k _ _ at3) (by rw [z3.1]; exact q)
    have look2 := PySem.W.exm_one (M := model X.prog X.w) (J3.kIn) look1 hb
    have ask : ∀ {Q : Value → Shared → Prop} {E : Value → Shared → Prop}, Q c { s' with heap := h3 } → wpAny (model X.prog X.w) (X.A.mark (some (.ref a))) (eval (.Name x np) X.env) Q E { s' with heap := h3 } := fun {Q E} q => by
      obtain ⟨g1, g2, g3 | ⟨g3, g4, g5⟩⟩ := hcls
      · exact ld_glob (X := X.suite a ((a, oe3) :: (X.pn ++ pins))) S3 g1 g3 q g2
      · exact ld_blt (X := X.suite a ((a, oe3) :: (X.pn ++ pins))) S3 g1 g3 g4 q g5 g2
    refine ask (look2.here ?_)
    cases b with
    | true =>
      refine codeAny_handlers_suite_as ?_
      refine HandSPX.lands_againZ f3 fun h4 f4 up4 => ?_
      have J4 : L2.Inv X pins σ' H' { s' with heap := h4 } := J.landed inB f4.1 ((up.trans up3).trans up4) eos gs
      obtain ⟨oe4, vs4, at4, z4, dat4⟩ := f4.there
      have S4 := J4.suite at4 dat4 na nL nF
      refine store_ok (X := X.suite a ((a, oe4) :: (X.pn ++ pins))) (v := .ref a) S4 hnd hix (.inl hkind) rfl (fun s5 S5 => ?_) (.inr hkind)
      refine wpAny_mono ((hsuite a oe4 cls d (X.pn ++ pins) z4 ⟨_, dat4⟩).run [] s5 _ H' _ S5 (yes rfl a oe4 vs4 na z4 dat4)) (fun fl s6 hsp => ?_) (fun _ _ z => False.elim z)
      have fin : ∀ {σ6 : L2.St} {H6 : Hp} {Q : Shared → Prop}, L2.Inv (X.suite a ((a, oe4) :: (X.pn ++ pins))) [] σ6 H6 s6 → (∀ s7, L2.Inv X pins (σ6.set i none) (upd H6 a (exk a oe4)) s7 → Q s7) →
          wpAny (model X.prog X.w) X.A (do bindName X.env n .none; unbindBehindTheSuite X.env n pos') (fun _ s7 => Q s7) X.xe s6 := fun {σ6 H6 Q} S6 hq => by
        obtain ⟨p1, p2, _⟩ := S6.pin (a, oe4) (List.mem_append_left _ List.mem_cons_self)
        exact gone_ok (track (S6.unsuite okX) p1 dat4 p2 not0 nL notP) hnd hix hkind hq
      cases fl with
      | next =>
        obtain ⟨σ6, H6, S6, q6⟩ := hsp
        exact fin S6 fun s7 J7 => ⟨_, _, J7, q6⟩
      | brk =>
        obtain ⟨σ6, H6, S6, q6⟩ := hsp
        exact fin S6 fun s7 J7 => ⟨_, _, J7, q6⟩
      | cont =>
        obtain ⟨σ6, H6, S6, q6⟩ := hsp
        exact fin S6 fun s7 J7 => ⟨_, _, J7, q6⟩
      | ret u =>
        obtain ⟨v6, σ6, H6, S6, r6, q6⟩ := hsp
        exact fin S6 fun s7 J7 => ⟨_, _, _, J7, r6, q6⟩
    | false =>
      show wpAny _ X.A (handleBy (.ref a) X.env []) _ _ _
      refine wpAny_handleBy_nil ?_
      obtain ⟨k1, k2, k3, oe, vs, T, oT, ts', he, hz, hdt, h1, hrr⟩ := id f3
      unfold PySem.passOn
      refine wpAny_bind (wpAny_field he hdt h1 ?_)
      rw [if_neg (show ¬ ((Value.ref T == Value.none) = true) from by simp)]
      have away : wpAny (model X.prog X.w) X.A (setFlight (.ref a) X.env.frame) (fun _ s4 => wpAny (model X.prog X.w) X.A (throw (.ref a) : Sem Flow) (SP X pins D) X.xe s4) X.xe { s' with heap := h3 } := by
        rw [hfrm]
        refine HandSPX.setFlight_upZ f3 fun h4 hh4 up4 => wpAny_throw (tk _ _ ?_)
        exact ⟨a, B, sI, pins, σ', H', cls, d, rfl, J, inB, (up.trans up3).trans up4, .inr (.inr (by rw [hstk]; exact hh4)), na, eos, gs, no rfl⟩
      first
        | exact wpAny_bind (wpAny_pure (wpAny_bind away))
        | exact wpAny_bind away
  · cases fl with
    | next =>
      obtain ⟨σ', H', J', q⟩ := hsp
      exact wpAny_execs_nil ⟨σ', H', J'.ofTry okX, q⟩
    | brk =>
      obtain ⟨σ', H', J', q⟩ := hsp
      exact ⟨σ', H', J'.ofTry okX, q⟩
    | cont =>
      obtain ⟨σ', H', J', q⟩ := hsp
      exact ⟨σ', H', J'.ofTry okX, q⟩
    | ret u =>
      obtain ⟨v, σ', H', J', r, q⟩ := hsp
      exact ⟨v, σ', H', J'.ofTry okX, r, q⟩
end
/-! ### a kept exception: its class C, its dict d with the fields fs -/
structure Kept (H : Hp) (a C : Addr) (d : Option Addr) (fs : List (Str × V)) : Prop where
  ex : ∃ oe vs, H a = some (exk a oe) ∧ Zc (.ref C) d oe ∧ oe.data = .fields vs
  dc : ∀ dd, d = some dd → H dd = some (.xd fs)
theorem Kept.mono {H H' : Hp} {a C : Addr} {d : Option Addr} {fs : List (Str × V)} (k : Kept H a C d fs) (s : Same H H') : Kept H' a C d fs := by
  obtain ⟨oe, vs, h1, h2, h3⟩ := k.ex
  exact ⟨⟨oe, vs, s _ _ h1, h2, h3⟩, fun dd e => s _ _ (k.dc dd e)⟩
/-- what the clause's end tracks is a kept exception -/
theorem Kept.of {H : Hp} {a C : Addr} {d : Option Addr} {fs : List (Str × V)} {oe : Obj} {vs : Array Value} (na : H a = none) (z : Zc (.ref C) d oe) (dt : oe.data = .fields vs) (hd : ∀ dd, d = some dd → H dd = some (.xd fs)) : Kept (upd H a (exk a oe)) a C d fs :=
  ⟨⟨oe, vs, upd_same, z, dt⟩, fun dd e => by rw [upd_ne (ne_of_none (hd dd e) na)]; exact hd dd e⟩
theorem Kept.inst {X : Cx} {pins : List (Addr × Obj)} {σ : L2.St} {H : Hp} {s : Shared} {a C : Addr} {d : Option Addr} {fs : List (Str × V)} (I : L2.Inv X pins σ H s) (k : Kept H a C d fs) :
    ∃ oe od, PySem.W.InstAt s.heap a oe C od ∧ ∀ dd, d = some dd → ∃ (o : Obj) (mA : Str → Option Value), od = some o ∧ (∀ name, PySem.W.lookIn name o = some (mA name)) ∧ ∀ f, RelO (fs.lookup f) (mA f) := by
  obtain ⟨oe, vs, h1, z, dt⟩ := k.ex
  have ha := exk_at I.hok h1
  have nc : PySem.W.notCls oe = true := by unfold PySem.W.notCls; rw [dt] <;> rfl
  cases d with
  | none => exact ⟨oe, none, ⟨ha, z.1, nc, by rw [z.2] <;> trivial⟩, fun dd e => nomatch e⟩
  | some dd =>
    have hx : ObjOk X.prog X.w H s.heap dd (.xd fs) := I.hok dd _ (k.dc dd rfl)
    obtain ⟨mA, hns, hr⟩ := hx
    obtain ⟨o, ho, hl⟩ := lookIn_ns hns
    exact ⟨oe, some o, ⟨ha, z.1, nc, by rw [z.2] <;> exact ho⟩, fun _ _ => ⟨o, mA, rfl, hl, hr⟩⟩
/-- isinstance(kept, c); isinstance(kept, (c1, c2, ..)) -/
def rIsX (K : PySem.W.Frag) : List V → Hp → VK → Prop := fun xs H Q => ∃ (a C : Addr) (d : Option Addr) (fs : List (Str × V)) (c : V) (u : Value) (b : Bool), xs = [.ref a, c] ∧ Kept H a C d fs ∧ ExcC K C ∧ ClsV c u ∧ PySem.W.kitOne K (.ref C) u = some b ∧ Q (.bl b) H
def rIsXT (K : PySem.W.Frag) : List V → Hp → VK → Prop := fun xs H Q => ∃ (a C tp : Addr) (d : Option Addr) (fs : List (Str × V)) (cs : List V) (us : List Value) (b : Bool), xs = [.ref a, .ref tp] ∧ Kept H a C d fs ∧ ExcC K C ∧ H tp = some (.tup cs) ∧ Paired ClsV cs us ∧ PySem.W.kitAny K (.ref C) us = some b ∧ Q (.bl b) H
theorem kitx_kept {K : PySem.W.Frag} {a C : Addr} {oe : Obj} {od : Option Obj} (E : ExcC K C) : PySem.W.KitX K (.ref a) (.ref C) (fun h => PySem.W.InstAt h a oe C od) :=
  PySem.W.kitx_exc (by obtain ⟨cd, hc, _⟩ := PySem.W.any_some E.hd; rw [hc]; rfl) E.hg E.hk E.hs E.ha E.hn E.ht E.hm
theorem call_isX {X : Cx} (K : PySem.W.Frag) (hK : X.K = K := by rfl) : CallR X (.builtin "isinstance") (rIsX K) := by
  subst hK
  intro pins s σ H xs us Q I r h
  obtain ⟨a, C, d, fs, c, u, b, rfl, kp, E, cv, kt, q⟩ := h
  obtain ⟨u1, u2, rfl, r1, r2⟩ := vals2 r
  cases (show u1 = Value.ref a from r1)
  have e2 := cv.eq r2
  subst e2
  obtain ⟨oe, od, J, _⟩ := kp.inst I
  exact PySem.W.kia_one (kitx_kept E) I.kIn J kt (fun z => nomatch z) fun tk => ⟨.bl b, H, I.tok tk, rfl, q⟩
theorem call_isXT {X : Cx} (K : PySem.W.Frag) (hK : X.K = K := by rfl) : CallR X (.builtin "isinstance") (rIsXT K) := by
  subst hK
  intro pins s σ H xs us Q I r h
  obtain ⟨a, C, tp, d, fs, cs, ws, b, rfl, kp, E, hT, cv, kt, q⟩ := h
  obtain ⟨u1, u2, rfl, r1, r2⟩ := vals2 r
  cases (show u1 = Value.ref a from r1)
  cases (show u2 = Value.ref tp from r2)
  obtain ⟨oe, od, J, _⟩ := kp.inst I
  obtain ⟨_, its, rv, o, h1, h2, n, h3⟩ := (show ObjOk X.prog X.w H s.heap tp (.tup cs) from I.hok tp _ hT)
  have e3 := ClsV.all cv rv
  subst e3
  obtain ⟨oc, odd, dt, sl⟩ := o
  simp only at h2 h3
  subst h2 h3
  exact PySem.W.kia_tup (kitx_kept E) I.kIn J h1 kt (fun z => nomatch z) fun tk => ⟨.bl b, H, I.tok tk, rfl, q⟩
/-- kept.f -/
def tFx (K : PySem.W.Frag) (f : Str) (te : TE) : TE := fun σ H Q => te σ H fun x H1 => ∃ (a C dd : Addr) (fs : List (Str × V)) (v : V), x = .ref a ∧ Kept H1 a C (some dd) fs ∧ ExcC K C ∧ PySem.W.findIn K (.ref C) f = some none ∧ fs.lookup f = some v ∧ Q v H1
theorem pe_fx {X : Cx} (K : PySem.W.Frag) {e : Expr} {te : TE} {pos : Pos} {n : Str} (he : PE X e te) (hb : attributeBase e n X.env (eval e X.env) = eval e X.env := by rfl) (hK : X.K = K := by rfl) : PE X (.Attribute e n pos) (tFx K n te) := by
  subst hK
  refine ⟨fun pins s σ H Q I h => ?_⟩
  refine attr_of hb (L2.thn (he.run pins s σ H _ I h) fun u s1 hh => ?_)
  obtain ⟨x, H1, I1, rx, a, C, dd, fs, v, rfl, kp, E, hno, l, q⟩ := hh
  obtain rfl : u = Value.ref a := rx
  obtain ⟨oe, od, J, more⟩ := kp.inst I1
  obtain ⟨o, mA, rfl, hl, hr⟩ := more dd rfl
  obtain ⟨w, hu, ru⟩ := RelO.some_of (v := v) (o := mA n) (by rw [← l]; exact hr n)
  exact HandSPX.exc_get I1.kIn J E.hg E.hk E.hs (PySem.W.findObj_own E.hd hno rfl (by rw [hl, hu])) (handed_of ru) ⟨v, H1, I1.tok _, ru, q⟩
/-- B.__init__(self, ..), B an own class over ValueError without its own __init__ -/
structure BaseC (K : PySem.W.Frag) (mg : Str → Option Value) (x : Str) (B : Addr) : Prop where
  m : mg x = some (.ref B)
  sp : PySem.W.specialIn K (.ref B) "__getattribute__" = some (some (.builtin "type.__getattribute__"))
  rd : PySem.W.readsIn K B (.type "type") = true
  ini : PySem.W.findCls K (.ref B) (.type "type") "__init__" = some (.val (.builtin "ValueError.__init__"))
theorem pe_binit {X : Cx} (K : PySem.W.Frag) {x : Str} {B : Addr} {e : Expr} {es : List Expr} {ta : TA} {p1 p2 pos : Pos} {pl : Sem Bool} (T : BaseC X.K X.mg x B) (ha : PA X (e :: es) ta) (hg : Gl X x := by rfl)
    (hc : eval (.Call (.Attribute (.Name x p1) "__init__" p2) (e :: es) [] pos) X.env = (do
      let who ← eval (.Name x p1) X.env
      standAt p2.atName
      let (g, ahead) ← holding [who] (getMethod who "__init__" pl)
      callWith pos g ahead (backTo pos (starEach (e :: es) X.env)) (backToKw pos (keywordEach [] X.env))) := by rfl)
    (hs : starEach (e :: es) X.env = (false, eval e X.env) :: starEach es X.env := by rfl) (hp : (backTo pos (starEach es X.env)).any (·.1) = false := by rfl) (hdb : (x == ("__debug__" : Str)) = false := by decide) (hK : X.K = K := by rfl) :
    PE X (.Call (.Attribute (.Name x p1) "__init__" p2) (e :: es) [] pos) (tVeI K ta) := by
  subst hK
  refine ⟨fun pins s σ H Q I h => ?_⟩
  refine PySem.W.methodCall_KW (ld_glob I hg T.m ?_ hdb) hc
  obtain ⟨m, fr⟩ := I.fr
  refine PySem.W.method_cls I.kIn T.sp ?_
  refine PySem.W.cls_value I.kIn T.rd T.ini (by decide +kernel) ?_
  show wpAny _ _ (callWith pos (Value.builtin "ValueError.__init__") [] (backTo pos (starEach (e :: es) X.env)) []) _ _ _
  refine PyProof.Rows.callWith_method1 (L2.thn (ha.run pos pins _ σ H _ (I.tok _) h) fun us s1 hh => ?_) hs hp
  obtain ⟨vs, H1, I1, r1, a, C, ws, ev, hl, T', ea, q⟩ := hh
  subst ev
  cases r1 with
  | @cons _ u0 _ ur ra rw' =>
    obtain rfl : u0 = Value.ref a := ra
    exact oinit_ok T' I1 ea (by rw [← Paired.length rw', sizeLine_eq]; omega) fun s' J => ⟨.non, H1, J, rfl, q⟩
end Np

set_option Elab.async false
set_option linter.all false
set_option maxRecDepth 100000
set_option maxHeartbeats 4000000
namespace Np
open PySem PySem.Spec PyProof.Rows L2
/-! ### promises of defs that are called where nothing is being shown (no repr runs around) -/
structure FnG (P : Program) (w : World) (K : PySem.W.Frag) (mg : Str → Option Value) (base : Heap) (CX : CXT) (k : Nat) (f : Addr) (fd : FuncData) (ps : List Str) (sp : Sp) : Prop where
  len : ∀ vs H Q E, sp vs H Q E → vs.length = ps.length
  run : ∀ (A : Around) (outer : List Env) (s : Shared) (H : Hp) (args : Args) (us : List Value) (vs : List V) (Q : VK) (E : XK), A.guards = some [] → Room k A → Env0 P w K mg base A outer s H → BindsTo s fd args (ps.zip us) → Vals vs us → sp vs H Q E →
    codeAny (model P w) A (.call (.ref f) args) (CR CX outer P w H s Q E) s
section
variable {P : Program} {w : World} {K : PySem.W.Frag} {mg : Str → Option Value} {base : Heap} {CX : CXT} {k : Nat} {f : Addr} {fd : FuncData} {ps : List Str} {sp : Sp}
theorem FnG.of (F : FnOk P w K mg base CX k f fd ps sp) : FnG P w K mg base CX k f fd ps sp := ⟨F.len, fun A outer s H args us vs Q E _ hr => F.run A outer s H args us vs Q E hr⟩
end
theorem fn_ofG {CX : CXT} {P : Program} {w : World} {K : PySem.W.Frag} {mg : Str → Option Value} {base : Heap} {k : Nat} {f : Addr} {name qual : Str} {params : Arguments} {body : List Stmt} {scope : Scope} {dV kV doc pm cdv ct oc : Value} {an od : Option Addr}
    {osl : Array (Option Value)} {N ps : List Str} {sp : Sp} (lk : K.lookup f = some ⟨oc, od, .func (PySem.W.fnOf name qual params body scope dV kV doc pm an cdv ct), osl⟩) (hcd : PySem.W.codeIn K cdv qual = true) (S : FnScope N ps scope)
    (len : ∀ vs H Q E, sp vs H Q E → vs.length = ps.length)
    (hbody : ∀ (A : Around) (outer : List Env) (s : Shared) (H : Hp) (vs : List V) (Q : VK) (E : XK), A.guards = some [] → Room k (A.deeper (envOfC qual scope s.heap.objs.size f cdv)) → sp vs H Q E →
      ∃ t, PSs (cxOf CX P w K mg base N qual scope f cdv A outer s H E) body t ∧ t { nx := fun _ H' => Q .non H', rt := Q } (start N vs) H) :
    FnG P w K mg base CX (k + 1) f (PySem.W.fnOf name qual params body scope dV kV doc pm an cdv ct) ps sp := by
  refine ⟨len, fun A outer s H args us vs Q E hgd room e0 hbi rel hsp => ?_⟩
  have hlen := len _ _ _ _ hsp
  have inK : K.In s.heap := e0.mod.kin.keeps fun b o q => (e0.bs b o q).1
  have limit : s.heap.NoLimit := e0.mod.nolimit.keeps fun b o q => (e0.bs b o q).1
  have kinds : ∀ y ∈ ps.zip us, scope.names.lookup y.1 = some .local ∨ (scope.names.lookup y.1 = some .cell ∧ ((cellsFrom (s.heap.objs.size + 1) scope.names []).lookup y.1).isSome = true) := fun ⟨nm, v⟩ hy => by
    rcases S.par nm (List.of_mem_zip hy).1 with z | z
    · exact .inl z
    · exact .inr ⟨z, PySem.W.cellsFrom_some _ _ _ (.inl z)⟩
  refine codeAny_call_function room.depth (inK _ _ lk) rfl S.co S.gen rfl (PySem.W.codeRec_of inK hcd) (hbi _ _ _ _ ?_)
  refine wpAny_newFunctionEnv_cells S.kind kinds fun env henv s1 x => ?_
  subst henv
  refine ⟨limit.keeps x.toInCall.keep, codeAny_func ?_⟩
  obtain ⟨t, ht, hq⟩ := hbody A outer s H vs Q E hgd (room.deeper _) hsp
  have I0 : L2.Inv (cxOf CX P w K mg base N qual scope f cdv A outer s H E) [] (start N vs) H s1 := inv_start S room.hd e0 hlen rel x
  refine wpAny_mono (ht.run [] s1 (start N vs) H _ I0 hq) (fun fl s' hs => ?_) fun _ _ z => z
  have done : ∀ {σ' : L2.St} {H' : Hp} {v : V} {u : Value}, L2.Inv (cxOf CX P w K mg base N qual scope f cdv A outer s H E) [] σ' H' s' → RelV v u → Q v H' → CE outer P w H s Q u s' :=
    fun {σ' H' v u} J rv q => ⟨v, H', J.os, J.bare, J.base, J.hok, rv, q⟩
  cases fl with
  | ret u =>
    obtain ⟨v, σ', H', J, rv, q⟩ := hs
    exact done J rv q
  | next =>
    obtain ⟨σ', H', J, q⟩ := hs
    exact done (v := V.non) (u := Value.none) J rfl q
  | brk =>
    obtain ⟨_, _, _, q⟩ := hs
    exact q.elim
  | cont =>
    obtain ⟨_, _, _, q⟩ := hs
    exact q.elim
section
variable {P : Program} {w : World} {K : PySem.W.Frag} {mg : Str → Option Value} {base : Heap} {x qual : Str} {st : Stmt} {f : Addr} {fd : FuncData} {N ps : List Str} {k : Nat} {sp : Sp}
theorem Fun.okG (F : Fun K x qual st f fd) (S : FnScope N ps (defScope st)) (len : ∀ vs H Q E, sp vs H Q E → vs.length = ps.length)
    (hbody : ∀ (cdv : Value) (A : Around) (outer : List Env) (s : Shared) (H : Hp) (vs : List V) (Q : VK) (E : XK), (A.deeper (envOfC qual (defScope st) s.heap.objs.size f cdv)).guards = some [] → Room k (A.deeper (envOfC qual (defScope st) s.heap.objs.size f cdv)) → sp vs H Q E →
      ∃ t, PSs (cxOf CX0 P w K mg base N qual (defScope st) f cdv A outer s H E).nox (defBody st) t ∧ t { nx := fun _ H' => Q .non H', rt := Q } (start N vs) H) : FnG P w K mg base CX0 (k + 1) f fd ps sp := by
  obtain ⟨oc, od, kV, doc, pm, an, cdv, ct, osl, rfl, lk, hcd⟩ := F.ex
  refine fn_ofG lk hcd S len fun A outer s H vs Q E hgd hr hsp => ?_
  obtain ⟨t, h, q⟩ := hbody cdv A outer s H vs Q E hgd hr hsp
  exact ⟨t, h.nox, q⟩
theorem Fun.okGX (F : Fun K x qual st f fd) (S : FnScope N ps (defScope st)) (len : ∀ vs H Q E, sp vs H Q E → vs.length = ps.length)
    (hbody : ∀ (cdv : Value) (A : Around) (outer : List Env) (s : Shared) (H : Hp) (vs : List V) (Q : VK) (E : XK), (A.deeper (envOfC qual (defScope st) s.heap.objs.size f cdv)).guards = some [] → Room k (A.deeper (envOfC qual (defScope st) s.heap.objs.size f cdv)) → sp vs H Q E →
      ∃ t, PSs (cxOf (L2.CX P w) P w K mg base N qual (defScope st) f cdv A outer s H E) (defBody st) t ∧ t { nx := fun _ H' => Q .non H', rt := Q } (start N vs) H) : FnG P w K mg base (L2.CX P w) (k + 1) f fd ps sp := by
  obtain ⟨oc, od, kV, doc, pm, an, cdv, ct, osl, rfl, lk, hcd⟩ := F.ex
  exact fn_ofG lk hcd S len fun A outer s H vs Q E hgd hr hsp => hbody cdv A outer s H vs Q E hgd hr hsp
theorem FunD.okG {CX : CXT} {params : Arguments} {body : List Stmt} {scope : Scope} {dvs : List V} {kws : List (Str × V)} (F : FunD K x qual params body scope dvs kws f fd) (S : FnScope N ps scope) (len : ∀ vs H Q E, sp vs H Q E → vs.length = ps.length)
    (hbody : ∀ (cdv : Value) (A : Around) (outer : List Env) (s : Shared) (H : Hp) (vs : List V) (Q : VK) (E : XK), (A.deeper (envOfC qual scope s.heap.objs.size f cdv)).guards = some [] → Room k (A.deeper (envOfC qual scope s.heap.objs.size f cdv)) → sp vs H Q E →
      ∃ t, PSs (cxOf CX P w K mg base N qual scope f cdv A outer s H E) body t ∧ t { nx := fun _ H' => Q .non H', rt := Q } (start N vs) H) : FnG P w K mg base CX (k + 1) f fd ps sp := by
  obtain ⟨oc, od, dV, kV, doc, pm, an, cdv, ct, osl, rfl, lk, hcd, _, _⟩ := F.ex
  exact fn_ofG lk hcd S len fun A outer s H vs Q E hgd hr hsp => hbody cdv A outer s H vs Q E hgd hr hsp
end
/-- the end: the law's promise at the heap behind the top -/
theorem law_callG {P : Program} {w : World} {K : PySem.W.Frag} {mg mb : Str → Option Value} {CX : CXT} {k : Nat} {fa a : Addr} {fd : FuncData} {x : Str} {sp : Sp} {s₁ : Shared} {vs : List Value} {ns : List Int}
    (inK : K.In s₁.heap) (hmg : s₁.heap.Ns mainGlobals mg) (hmb : s₁.heap.Ns builtinsNs mb) (hbb : ∀ x : Str, x ≠ "__name__" → mb x = bootBuiltins x) (hlim : s₁.heap.NoLimit) (hgens : s₁.gens = #[])
    (hsc : s₁.heap.get? a = some { cls := .type "list", data := .seq vs.toArray }) (hints : IntsAre vs ns) (hlen : ns.length ≤ sizeLine) (hr : Room k callerA)
    (F : ∀ base : Heap, K.In base → base.Ns mainGlobals mg → FnG P w K mg base CX k fa fd [x] sp) (hbind : ∀ (s : Shared) (u : Value), BindsTo s fd ⟨[u], []⟩ [(x, u)])
    (hsp : ∀ H : Hp, Only H → SqL K H a (ns.map V.int) → sp [.ref a] H (fun v _ => v = .bl true) fun _ _ _ => False)
    (hCX : ∀ H e s', CX [] H s₁ (fun _ _ _ => False) e s' → False) :
    codeAny (model P w) callerA (.call (.ref fa) ⟨[.ref a], []⟩) (fun r s' => r = .ok (.ret (.bool true)) ∧ OldK s₁.heap s'.heap ∧ s'.os = s₁.os ∧ AllBare s'.gens) s₁ := by
  have rel := vals_ints hints
  have lv := hints.length
  have core : ∀ H : Hp, Only H → SqL K H a (ns.map V.int) → HOk P w H s₁.heap → (∀ b, H b ≠ none → b = a) → (H a ≠ none → K.lookup a = none) →
      codeAny (model P w) callerA (.call (.ref fa) ⟨[.ref a], []⟩) (fun r s' => r = .ok (.ret (.bool true)) ∧ OldK s₁.heap s'.heap ∧ s'.os = s₁.os ∧ AllBare s'.gens) s₁ := by
    intro H only sq hok onlyA notK
    have ground : ∀ {b : Addr} {o : Obj}, s₁.heap.get? b = some o → H b = none → (hidT s₁.heap H).get? b = some o := fun e n => hidT_get e n
    have noDict : ∀ {b : Addr} {o : Obj} {es : Array DictEntry} {ep : Nat}, s₁.heap.get? b = some o → o.data = .dict es ep → H b = none := fun {b o es ep} e dd => by
      cases q : H b with
      | none => rfl
      | some u =>
        have eb : b = a := onlyA b (by rw [q]; simp)
        subst eb
        rw [hsc] at e
        cases e
        exact nomatch (show Data.seq vs.toArray _ = Data.dict es ep from dd)
    have spaces : ∀ {b : Addr} {m : Str → Option Value}, s₁.heap.Ns b m → (hidT s₁.heap H).Ns b m := fun {b m} ⟨o, es, ep, e, dd, r⟩ => ⟨o, es, ep, ground e (noDict e dd), dd, r⟩
    have kb : K.In (hidT s₁.heap H) := fun b o e => ground (inK b o e) (by
      cases q : H b with
      | none => rfl
      | some u =>
        have eb : b = a := onlyA b (by rw [q]; simp)
        subst eb
        rw [notK (by rw [q]; simp)] at e
        cases e)
    have hMod : Mod K mg (hidT s₁.heap H) := ⟨kb, spaces hmg, ⟨mb, spaces hmb, hbb⟩, let ⟨mc, h1, h2⟩ := hlim; ⟨mc, spaces h1, h2⟩⟩
    have e0 : Env0 P w K mg (hidT s₁.heap H) callerA [] s₁ H := ⟨rfl, hMod, fun b o e => of_hidT e, Nat.le_of_eq (hidT_size _ _), trivial, fun b hb => absurd (show b ∈ ([] : List Addr) from hb) (by simp), hok, .of_eq hgens⟩
    refine codeAny_mono ((F _ kb (spaces hmg)).run callerA [] s₁ H ⟨[.ref a], []⟩ [.ref a] [.ref a] _ _ rfl hr e0 (hbind s₁ (.ref a)) (.cons rfl .nil) (hsp H only sq)) fun r s' hh => ?_
    cases r with
    | error e => exact (hCX H e s' hh).elim
    | ok fl =>
      cases fl with
      | next => exact False.elim hh
      | brk => exact False.elim hh
      | cont => exact False.elim hh
      | ret u =>
        obtain ⟨v, H', eos, bare, un, hok', rv, q⟩ := hh
        have ev : v = .bl true := q
        subst ev
        obtain rfl : u = Value.bool true := rv
        refine ⟨rfl, OldK.of_keep fun b o e => ?_, eos, bare⟩
        cases q2 : H b with
        | none => exact un.keep b o e q2 (by intro z; exact absurd (show b ∈ ([] : List Addr) from z) (by simp)) (by simp)
        | some u =>
          rcases only b with z | ⟨ob, xs, z⟩
          · rw [q2] at z
            cases z
          · obtain ⟨e1, _⟩ := hok b _ z
            obtain ⟨e2, _⟩ := hok' b _ (un.frzs b ob _ z)
            rw [e] at e1
            cases e1
            exact e2
  cases hk : K.lookup a with
  | some o =>
    have e := inK a o hk
    rw [hsc] at e
    cases e
    refine core (fun _ => none) (fun _ => .inl rfl) (.inr ⟨_, vs.toArray, _, hk, rfl, rfl, rfl, by rw [List.size_toArray, lv]; exact hlen, by simpa using rel⟩) (fun b u z => nomatch (show (none : Option HO) = some u from z)) (fun b z => absurd rfl z) fun z => absurd rfl z
  | none =>
    refine core (fun b => if b = a then some (.frz { cls := .type "list", data := .seq vs.toArray } (.lst (ns.map V.int))) else none) (fun b => ?_) (.inl (.inr ⟨{ cls := .type "list", data := .seq vs.toArray }, if_pos rfl⟩)) (fun b u z => ?_) (fun b z => ?_) fun _ => hk
    · by_cases hb : b = a
      · exact .inr ⟨_, _, if_pos hb⟩
      · exact .inl (if_neg hb)
    · by_cases hb : b = a
      · have z' := (if_pos hb).symm.trans z
        cases z'
        subst hb
        exact ⟨hsc, by rw [List.length_map]; exact hlen, vs, _, rel, hsc⟩
      · exact nomatch (if_neg hb).symm.trans z
    · by_cases hb : b = a
      · exact hb
      · exact absurd (if_neg hb) z
theorem walk_ofG {l : PySem.W.OpenLaw} {n k : Nat} {q : Program} {loose : List Str} {XP : (Str → Option Value) → Heap → Prop} {YP : World → Heap → Prop} {d : DefRec} {K : Params → PySem.W.Frag} {CX : World → CXT} {sp : World → Sp} {x : Str}
    (hn : l.most = some n) (hn2 : n ≤ sizeLine) (hdf : d.params.defaults = []) (hr : Room k callerA)
    (hY : ∀ (w : World) (h : Heap), YP w h → (K w.params).In h)
    (F : ∀ (w : World) (mg : Str → Option Value) (fa : Addr) (h : Heap), (K w.params).In h → h.Ns mainGlobals mg → mg d.name = some (.ref fa) →
      ∃ fd : FuncData, (∀ (s : Shared) (u : Value), BindsTo s fd ⟨[u], []⟩ [(x, u)]) ∧
        ∀ base : Heap, (K w.params).In base → base.Ns mainGlobals mg → FnG l.prog w (K w.params) mg base (CX w) k fa fd [x] (sp w))
    (hsp : ∀ (w : World) (H : Hp) (a : Addr) (ns : List Int), ns.length ≤ n → Only H → SqL (K w.params) H a (ns.map V.int) → sp w [.ref a] H (fun v _ => v = .bl true) fun _ _ _ => False)
    (hCX : ∀ (w : World) (H : Hp) (s : Shared) (e : Value) (s' : Shared), CX w [] H s (fun _ _ _ => False) e s' → False) :
    PySem.W.WalkO q loose XP YP l.row.toRowW d [] (fun f vs => PySem.call f vs) := by
  refine Att.attach_call hn hdf fun w s₀ s₁ mg mb fa o pm cd doc a vs ns G Y ho hd hcd hmg hobj hints hlen hg => ?_
  obtain ⟨fd, hb, hF⟩ := F w mg fa _ (hY w _ Y) G.T.g hmg
  exact law_callG (hY w _ Y) G.T.g G.T.b G.T.builtins G.T.nolimit hg hobj hints (Nat.le_trans hlen hn2) hr hF hb (fun H hO hS => hsp w H a ns hlen hO hS) fun H e s' => hCX w H s₁ e s'
/-! ### calls -/
structure OkG (P : Program) (w : World) (K : PySem.W.Frag) (mg : Str → Option Value) (base : Heap) (CX : CXT) (k : Nat) (x : Str) (ps : List Str) (sp : Sp) (f : Addr) (fd : FuncData) : Prop where
  ok : FnG P w K mg base CX k f fd ps sp
  m : mg x = some (.ref f)
  kp : PySem.W.keepIn K (.ref f) = true
section
variable {X : Cx} {CX : CXT} {k n : Nat} {f : Addr} {fd : FuncData} {ps ks : List Str} {sp : Sp} {E : L2.St → XK} {x : Str} {p pos : Pos} {e : Expr} {es : List Expr} {kws : List Keyword} {t tk : TA} {dvs : List V} {gV : List V → List V → List V}
theorem pass0At {X : Cx} (σ : L2.St) : PassesAt CX0 X σ E0 := fun _ _ _ _ _ _ h => h.elim
theorem passLAt {X : Cx} (σ : L2.St) : PassesAt (L2.CX X.prog X.w) X σ E0 := fun pins H s e s' I h => passL pins σ H s e s' I h
/-- a def that lets its callee's exceptions out -/
theorem passXAt {X : Cx} {E' : XK} (tk : Takes X (fun cls d _ H => E' cls d H)) (σ : L2.St) : PassesAt (L2.CX X.prog X.w) X σ E' := fun pins H s e s' I h => passes_call tk (fun _ _ _ _ z => z) pins σ H s e s' I h
theorem run_g {pins : List (Addr × Obj)} {σ : L2.St} {H : Hp} {s : Shared} {Q : VK} {args : Args} {us : List Value} {vs : List V} {E : XK} (F : FnG X.prog X.w X.K X.mg X.base CX k f fd ps sp) (hgd : X.A.guards = some []) (hr : Room k X.A) (hb : BindsTo s fd args (ps.zip us)) (hx : PassesAt CX X σ E)
    (I : L2.Inv X pins σ H s) (r : Vals vs us) (h : sp vs H Q E) : codeAny (model X.prog X.w) X.A (.call (.ref f) args) (fun r s' => match r with | .ok (.ret u) => EP X pins σ Q u s' | .ok _ => False | .error e => X.xe e s') s := by
  refine codeAny_mono (F.run X.A X.stack s H args us vs Q E hgd hr I.env0 hb r h) fun r s' hq => ?_
  cases r with
  | error e => exact hx pins H s e s' I hq
  | ok fl =>
    cases fl with
    | ret u => exact I.after hq
    | next => exact False.elim hq
    | brk => exact False.elim hq
    | cont => exact False.elim hq
def tCallE (sp : Sp) (dvs : List V) (E : L2.St → XK) (t : TA) : TE := fun σ H Q => t σ H fun vs H1 => sp (vs ++ dvs) H1 Q (E σ)
def tCallKE (n m : Nat) (sp : Sp) (gV : List V → List V → List V) (E : L2.St → XK) (t tk : TA) : TE := fun σ H Q => t σ H fun vs H1 => tk σ H1 fun zs H2 => vs.length = n ∧ zs.length = m ∧ sp (gV vs zs) H2 Q (E σ)
theorem run_gw {pins : List (Addr × Obj)} {σ : L2.St} {H : Hp} {s : Shared} {Q : VK} {us ds : List Value} {vs : List V} {E : XK} (F : FnG X.prog X.w X.K X.mg X.base CX k f fd ps sp) (hgd : X.A.guards = some []) (hr : Room k X.A) (hb : Binds X.K fd ps ds) (hd : Vals dvs ds) (hx : PassesAt CX X σ E)
    (I : L2.Inv X pins σ H s) (r : Vals vs us) (h : sp (vs ++ dvs) H Q E) : wpAny (model X.prog X.w) X.A (call (.ref f) us) (EP X pins σ Q) X.xe s := by
  have r2 : Vals (vs ++ dvs) (us ++ ds) := r.append hd
  have hl : (us ++ ds).length = ps.length := by rw [← r2.length]; exact F.len _ _ _ _ h
  refine wpAny_call (codeAny_mono (run_g F hgd hr (hb s us I.kIn hl) hx I r2 h) fun r s' hq => ?_)
  cases r with
  | error e => exact hq
  | ok fl => cases fl <;> exact hq
theorem pe_c (O : OkG X.prog X.w X.K X.mg X.base CX k x ps sp f fd) (b : ∃ ds, Vals dvs ds ∧ Binds X.K fd ps ds) (hgd : X.A.guards = some []) (hr : Room k X.A) (hx : ∀ σ, PassesAt CX X σ (E σ)) (ha : PA X (e :: es) t) (hg : Gl X x := by rfl)
    (hdb : (x == ("__debug__" : Str)) = false := by decide) (he : starEach (e :: es) X.env = (false, eval e X.env) :: starEach es X.env := by rfl) (hpl : (backTo pos (starEach es X.env)).any (·.1) = false := by rfl) :
    PE X (.Call (.Name x p) (e :: es) [] pos) (tCallE sp dvs E t) := by
  obtain ⟨ds, hv, hb⟩ := b
  refine ⟨fun pins s σ H Q I h => ?_⟩
  refine wpAny_Call_Name_kw (ld_glob I hg O.m ?_ hdb)
  refine PySem.W.callWith_K (h₀ := X.base) I.ok.mod.kin O.kp (L2.thn (ha.run pos pins s σ H _ I h) fun us s1 hh => ?_) he hpl
  obtain ⟨vs, H1, I1, r, q⟩ := hh
  exact ⟨I1.kIn, run_gw O.ok hgd hr hb hv (hx σ) I1 r q⟩
theorem pe_c0 (O : OkG X.prog X.w X.K X.mg X.base CX k x ps sp f fd) (b : ∃ ds, Vals dvs ds ∧ Binds X.K fd ps ds) (hgd : X.A.guards = some []) (hr : Room k X.A) (hx : ∀ σ, PassesAt CX X σ (E σ)) (hg : Gl X x := by rfl)
    (hdb : (x == ("__debug__" : Str)) = false := by decide) : PE X (.Call (.Name x p) [] [] pos) (tCallE sp dvs E tNil) := by
  obtain ⟨ds, hv, hb⟩ := b
  refine ⟨fun pins s σ H Q I h => ?_⟩
  refine wpAny_Call_Name_kw (ld_glob I hg O.m ?_ hdb)
  exact PySem.W.callWith_K0 I.kIn O.kp (run_gw (us := []) (vs := []) O.ok hgd hr hb hv (hx σ) I .nil h)
theorem run_gk {pins : List (Addr × Obj)} {σ : L2.St} {H : Hp} {s : Shared} {Q : VK} {us ws : List Value} {vs zs : List V} {E : XK} (F : FnG X.prog X.w X.K X.mg X.base CX k f fd ps sp) (hgd : X.A.guards = some []) (hr : Room k X.A) (b : KB X.K fd ps n ks gV) (hx : PassesAt CX X σ E)
    (I : L2.Inv X pins σ H s) (r : Vals vs us) (rz : Vals zs ws) (l1 : vs.length = n) (l2 : zs.length = ks.length) (h : sp (gV vs zs) H Q E) : wpAny (model X.prog X.w) X.A (call (.ref f) us (ks.zip ws)) (EP X pins σ Q) X.xe s := by
  obtain ⟨g, hb⟩ := b
  refine wpAny_call (codeAny_mono (run_g F hgd hr (hb.to s us ws I.kIn (r.length.symm.trans l1) (rz.length.symm.trans l2)) hx I (hb.rel r rz) h) fun r s' hq => ?_)
  cases r with
  | error e => exact hq
  | ok fl => cases fl <;> exact hq
theorem pe_ck (O : OkG X.prog X.w X.K X.mg X.base CX k x ps sp f fd) (b : KB X.K fd ps n ks gV) (hgd : X.A.guards = some []) (hr : Room k X.A) (hx : ∀ σ, PassesAt CX X σ (E σ))
    (ha : PA X (e :: es) t) (hkw : PK X kws tk) (hg : Gl X x := by rfl) (hall : (backToKw pos (keywordEach kws X.env)).all (·.1.isSome) = true := by rfl) (hks : (backToKw pos (keywordEach kws X.env)).filterMap (·.1) = ks := by rfl)
    (hdb : (x == ("__debug__" : Str)) = false := by decide) (he : starEach (e :: es) X.env = (false, eval e X.env) :: starEach es X.env := by rfl)
    (hpl : ((backTo pos (starEach (e :: es) X.env)).any (·.1) || (backToKw pos (keywordEach kws X.env)).any (·.1.isNone)) = false := by rfl) :
    PE X (.Call (.Name x p) (e :: es) kws pos) (tCallKE n ks.length sp gV E t tk) := by
  refine ⟨fun pins s σ H Q I h => ?_⟩
  refine wpAny_Call_Name_kw (ld_glob I hg O.m ?_ hdb)
  refine PySem.W.callWith_KW (h₀ := X.base) I.ok.mod.kin O.kp hall (L2.thn (ha.run pos pins s σ H _ I h) fun us s1 hh => ?_) hpl he
  obtain ⟨vs, H1, I1, r, q⟩ := hh
  refine L2.thn (hkw.run pos pins s1 σ H1 _ I1 q) fun ws s2 hh2 => ?_
  obtain ⟨zs, H2, I2, rz, l1, l2, q2⟩ := hh2
  refine ⟨I2.kIn, ?_⟩
  rw [hks]
  exact run_gk O.ok hgd hr b (hx σ) I2 r rz l1 l2 q2
theorem pe_ck0 (O : OkG X.prog X.w X.K X.mg X.base CX k x ps sp f fd) (b : KB X.K fd ps 0 ks gV) (hgd : X.A.guards = some []) (hr : Room k X.A) (hx : ∀ σ, PassesAt CX X σ (E σ))
    (hkw : PK X kws tk) (hg : Gl X x := by rfl) (hall : (backToKw pos (keywordEach kws X.env)).all (·.1.isSome) = true := by rfl) (hks : (backToKw pos (keywordEach kws X.env)).filterMap (·.1) = ks := by rfl)
    (hdb : (x == ("__debug__" : Str)) = false := by decide)
    (hpl : ((backTo pos (starEach [] X.env)).any (·.1) || (backToKw pos (keywordEach kws X.env)).any (·.1.isNone)) = false := by rfl) :
    PE X (.Call (.Name x p) [] kws pos) (tCallKE 0 ks.length sp gV E tNil tk) := by
  refine ⟨fun pins s σ H Q I h => ?_⟩
  refine wpAny_Call_Name_kw (ld_glob I hg O.m ?_ hdb)
  refine PySem.W.callWith_KW0 (h₀ := X.base) I.ok.mod.kin O.kp hall ?_ hpl
  refine L2.thn (hkw.run pos pins s σ H _ I h) fun ws s2 hh2 => ?_
  obtain ⟨zs, H2, I2, rz, l1, l2, q2⟩ := hh2
  refine ⟨I2.kIn, ?_⟩
  rw [hks]
  exact run_gk (us := []) (vs := []) O.ok hgd hr b (hx σ) I2 .nil rz l1 l2 q2
end
/-! ### repr of data -/
def rReprD (K : PySem.W.Frag) : List V → Hp → VK → Prop := fun xs H Q => ∃ (a : Addr) (d : PyData), xs = [.ref a] ∧ Dp K H (.ref a) d ∧ PyData.showable d = true ∧ SeqAt.shaped d = true ∧ d.shown.length ≤ sizeLine ∧ Q (.str d.shown) H
theorem call_reprD {X : Cx} (K : PySem.W.Frag) (hgd : X.A.guards = some []) (hu : X.A.units + 130 < cLine) (hK : X.K = K := by rfl) : CallR X (.builtin "repr") (rReprD K) := by
  subst hK
  intro pins s σ H xs us Q I r h
  obtain ⟨a, d, rfl, dp, sh, shp, hz, q⟩ := h
  obtain ⟨u, rfl, rx⟩ := vals1 r
  cases (show u = Value.ref a from rx)
  obtain ⟨as, rd⟩ := dp.reads I d _ _ rfl
  have hd := SeqAt.depth_of_shaped shp
  have hnd : d.hasDict = false := PyData.hasDict_of_canLay d (SeqAt.canLay_of_shaped shp)
  exact repr_of_reads' rd sh (fun z => by rw [hnd] at z; cases z) hgd (by omega) (fun _ _ z => z) (fun h' t tk keep => ⟨.str d.shown, H, I.kept keep, ⟨_, rfl⟩, q⟩) hz
end Np

set_option Elab.async false
set_option linter.all false
set_option maxRecDepth 100000
set_option maxHeartbeats 4000000
namespace Np
open PySem PySem.Spec PyProof.Rows L2
/-! ### text * number -/
theorem op_mulS {X : Cx} : OpR X (binaryOp .Mult) (fun x y H Q => ∃ (z : Str) (n : Int), x = .str z ∧ y = .int n ∧ MulOk z n ∧ Q (.str (Txt.mul z n)) H) := by
  intro pins s σ H x y v u Q I rx ry h
  obtain ⟨z, n, rfl, rfl, ok, q⟩ := h
  obtain ⟨t, rfl⟩ := rx
  obtain ⟨t', rfl⟩ := ry
  exact SB.mul ok fun t'' k => ⟨.str (Txt.mul z n), H, I.tok k, ⟨_, rfl⟩, q⟩
theorem mulOk_of {z : Str} {n : Int} (h1 : n < 2 ^ 30) (h0 : -(2 ^ 30) < n) (hz : z.length * n.toNat ≤ 16777216) : MulOk z n := by
  refine ⟨?_, fun hn _ => ?_, fun _ _ => ?_⟩
  · rw [decide_eq_false (by omega), decide_eq_false (by omega)] <;> rfl
  · obtain ⟨m, rfl⟩ := Int.eq_ofNat_of_zero_le (show 0 ≤ n by omega)
    have hm : 0 < (m : Int) := by omega
    intro hgt
    have hz' : z.length * m ≤ 16777216 := hz
    have h2 : ((2 ^ 63 - 1 : Int)) / (m : Int) < (z.length : Int) := hgt
    have h3 := (Int.ediv_lt_iff_lt_mul hm).mp h2
    have h4 : ((z.length * m : Nat) : Int) ≤ ((16777216 : Nat) : Int) := Int.ofNat_le.mpr hz'
    rw [Int.natCast_mul] at h4
    omega
  · have hz' : z.length * n.toNat ≤ sizeLine := by rw [sizeLine_eq]; exact hz
    exact decide_eq_false (Nat.not_lt.mpr hz')
theorem foldl_reps (a : Array Nat) : ∀ (k : Nat) (b : Array Nat), ((List.replicate k a).foldl (· ++ ·) b).toList = b.toList ++ (List.replicate k a.toList).flatten
  | 0, b => by simp
  | k + 1, b => by
    rw [List.replicate_succ, List.foldl_cons, foldl_reps a k (b ++ a), List.replicate_succ, List.flatten_cons, Array.toList_append, List.append_assoc]
theorem toList_mul (z : Str) (n : Nat) : (Txt.mul z n).cps.toList = (List.replicate n z.cps.toList).flatten := by
  unfold Txt.mul
  by_cases h1 : (n : Int) < 1
  · have e : n = 0 := by omega
    subst e
    rw [if_pos h1] <;> rfl
  · rw [if_neg h1]
    by_cases h2 : ((n : Int) == 1 || z.length == 0) = true
    · rw [if_pos h2]
      rcases Bool.or_eq_true_iff.mp h2 with q | q
      · have e : n = 1 := by have := eq_of_beq q; omega
        subst e
        simp
      · have e : z.length = 0 := eq_of_beq q
        have e2 : z.cps.toList = [] := List.eq_nil_of_length_eq_zero (by rw [Array.length_toList]; exact e)
        rw [e2]
        simp
    · rw [if_neg h2]
      show ((List.replicate (n : Int).toNat z.cps).foldl (· ++ ·) #[]).toList = _
      rw [foldl_reps, Int.toNat_natCast] <;> rfl
theorem Tx.mul {m : Nat} {z : Str} (h : Tx m z) (n : Nat) : Tx (n * m) (Txt.mul z n) := by
  refine ⟨?_, fun c hc => ?_⟩
  · show (Txt.mul z n).cps.size ≤ _
    rw [← Array.length_toList, toList_mul, List.length_flatten, List.map_replicate, List.sum_replicate_nat, Array.length_toList]
    exact Nat.mul_le_mul_left n h.len
  · rw [toList_mul] at hc
    obtain ⟨l, hl, hcl⟩ := List.mem_flatten.mp hc
    rw [List.eq_of_mem_replicate hl] at hcl
    exact h.ok c hcl
/-! ### own exceptions with an __init__: made and raised -/
def spInit (C : Addr) (names : List Str) : Sp := fun vs H Q _ => ∃ (a : Addr) (ws : List V), vs = .ref a :: ws ∧ ws.length = names.length ∧ H a = some (exo a C none) ∧
  ∀ d H', H d = none → d ≠ a → H' a = some (exo a C (some d)) → H' d = some (exd d (names.zip ws).reverse) → (∀ b, b ≠ a → b ≠ d → H' b = H b) → Q .non H'
theorem mk_tail {C : Addr} {names : List Str} {vs : List V} {H1 : Hp} {Q : XK} (hl : vs.length = names.length) (hs : vs.length ≤ 1000) (k : ∀ d, H1 d = none → Q (.ref C) (some d) (upd H1 d (.xd (names.zip vs).reverse))) :
    vs.length ≤ 1000 ∧ ∀ a, H1 a = none → spInit C names (.ref a :: (vs ++ [])) (upd H1 a (exo a C none))
      (fun v H2 => v = .non ∧ ∃ (d : Addr) (fs : List (Str × V)), H2 a = some (exo a C (some d)) ∧ H2 d = some (exd d fs) ∧ H1 d = none ∧ Q (.ref C) (some d) (upd (del H2 a) d (.xd fs))) (fun _ _ _ => False) := by
  refine ⟨hs, fun a na => ⟨a, vs, by rw [List.append_nil], hl, upd_same, fun d H' nd ne h1 h2 hb => ⟨rfl, d, _, h1, h2, ?_, ?_⟩⟩⟩
  · rw [upd_ne ne] at nd
    exact nd
  · have e : upd (del H' a) d (.xd (names.zip vs).reverse) = upd H1 d (.xd (names.zip vs).reverse) := by
      funext b
      by_cases hbd : b = d
      · rw [hbd, upd_same, upd_same]
      · rw [upd_ne hbd, upd_ne hbd]
        by_cases hba : b = a
        · rw [hba, del_same, na]
        · rw [del_ne hba, hb b hba hbd, upd_ne hba]
    rw [e]
    rw [upd_ne ne] at nd
    exact k d nd
def RaiseC (P : Program) (w : World) (K : PySem.W.Frag) (mg : Str → Option Value) (base : Heap) (C : Addr) (x : Str) (ps names : List Str) : Prop := ∃ (fI : Addr) (fd : FuncData), PySem.W.findIn K (.ref C) "__init__" = some (some (.ref fI)) ∧ PySem.W.typeIn K (.ref fI) = some (.type "function") ∧
  FnOk P w K mg base CX0 1 fI fd ps (spInit C names) ∧ Binds K fd ps []
def spL (K : PySem.W.Frag) : Sp := fun vs H Q _ => ∃ (a : Addr) (ns : List Int), vs = [.ref a] ∧ SqL K H a (ns.map V.int) ∧ ns.length ≤ 63 ∧ ∀ H', Q (.bl true) H'
theorem mt_indexK {X : Cx} (K : PySem.W.Frag) (h : X.K = K := by rfl) : MtR X "list.index" (rIndex K) := by subst h; exact mt_index
theorem un130 {k : Nat} {A : Around} (hr : Room k A) : A.units + 130 < cLine := by have := hr.un; omega
end Np

set_option Elab.async false
set_option linter.all false
set_option maxRecDepth 100000
set_option maxHeartbeats 4000000
namespace Np
open PySem PySem.Spec PyProof.Rows L2
/-! ### data as trees -/
inductive DD where
  | non | bl (b : Bool) | int (i : Int) | str (x : Str) | lst (xs : List DD) | tup (xs : List DD) | dic (kvs : List (Key × DD)) | obj (C : Str) (fs : List (Str × DD)) | exc (C : Str) (fs : List (Str × DD)) | raw (a : Addr)
abbrev CM := Str → Addr
/-- an exception's dict, if it has one -/
def XdAt (H : Hp) (d : Option Addr) (xs : List (Str × V)) : Prop := match d with
  | some d => H d = some (.xd xs)
  | none => xs = []
theorem XdAt.mono {H H' : Hp} {d : Option Addr} {xs : List (Str × V)} (h : XdAt H d xs) (e : Same H H') : XdAt H' d xs := by
  cases d with
  | none => exact h
  | some d => exact e _ _ h
mutual
inductive Rp (K : PySem.W.Frag) (cm : CM) (H : Hp) : V → DD → Prop
  | non : Rp K cm H .non .non
  | bl (b : Bool) : Rp K cm H (.bl b) (.bl b)
  | int (i : Int) : Rp K cm H (.int i) (.int i)
  | str (x : Str) : Rp K cm H (.str x) (.str x)
  | lst {a : Addr} {xs : List V} {ds : List DD} : H a = some (.lst xs) → RpA K cm H xs ds → Rp K cm H (.ref a) (.lst ds)
  | tup {a : Addr} {xs : List V} {ds : List DD} : H a = some (.tup xs) → RpA K cm H xs ds → Rp K cm H (.ref a) (.tup ds)
  | dic {a : Addr} {xs : List (Key × V)} {ds : List (Key × DD)} : H a = some (.dK xs) → RpK K cm H xs ds → Rp K cm H (.ref a) (.dic ds)
  | obj {a dx : Addr} {C : Str} {xs : List (Str × V)} {ds : List (Str × DD)} : H a = some (.ins (cm C) dx xs) → RpF K cm H xs ds → Rp K cm H (.ref a) (.obj C ds)
  | exc {a : Addr} {d : Option Addr} {oe : Obj} {vs : Array Value} {C : Str} {xs : List (Str × V)} {ds : List (Str × DD)} : H a = some (exk a oe) → Zc (.ref (cm C)) d oe → oe.data = .fields vs → XdAt H d xs → RpF K cm H xs ds → Rp K cm H (.ref a) (.exc C ds)
  | raw (a : Addr) : Rp K cm H (.ref a) (.raw a)
inductive RpA (K : PySem.W.Frag) (cm : CM) (H : Hp) : List V → List DD → Prop
  | nil : RpA K cm H [] []
  | cons {v : V} {vs : List V} {d : DD} {ds : List DD} : Rp K cm H v d → RpA K cm H vs ds → RpA K cm H (v :: vs) (d :: ds)
inductive RpK (K : PySem.W.Frag) (cm : CM) (H : Hp) : List (Key × V) → List (Key × DD) → Prop
  | nil : RpK K cm H [] []
  | cons {k : Key} {v : V} {vs : List (Key × V)} {d : DD} {ds : List (Key × DD)} : Rp K cm H v d → RpK K cm H vs ds → RpK K cm H ((k, v) :: vs) ((k, d) :: ds)
inductive RpF (K : PySem.W.Frag) (cm : CM) (H : Hp) : List (Str × V) → List (Str × DD) → Prop
  | nil : RpF K cm H [] []
  | cons {k : Str} {v : V} {vs : List (Str × V)} {d : DD} {ds : List (Str × DD)} : Rp K cm H v d → RpF K cm H vs ds → RpF K cm H ((k, v) :: vs) ((k, d) :: ds)
end
theorem Same.tupq {K : PySem.W.Frag} {H H' : Hp} {a : Addr} {xs : List V} (e : Same H H') (h : SqT K H a xs) : SqT K H' a xs := by
  rcases h with (h | ⟨o, h⟩) | h
  · exact .inl (.inl (e _ _ h))
  · exact .inl (.inr ⟨o, e _ _ h⟩)
  · exact .inr h
section
variable {K : PySem.W.Frag} {cm : CM} {H H' : Hp}
mutual
theorem Rp.mono (e : Same H H') : ∀ {v : V} {d : DD}, Rp K cm H v d → Rp K cm H' v d
  | _, _, .non => .non
  | _, _, .bl b => .bl b
  | _, _, .int i => .int i
  | _, _, .str x => .str x
  | _, _, .lst h r => .lst (e _ _ h) (RpA.mono e r)
  | _, _, .tup h r => .tup (e _ _ h) (RpA.mono e r)
  | _, _, .dic h r => .dic (e _ _ h) (RpK.mono e r)
  | _, _, .obj h r => .obj (e _ _ h) (RpF.mono e r)
  | _, _, .exc h z q h2 r => .exc (e _ _ h) z q (h2.mono e) (RpF.mono e r)
  | _, _, .raw a => .raw a
theorem RpA.mono (e : Same H H') : ∀ {v : List V} {d : List DD}, RpA K cm H v d → RpA K cm H' v d
  | _, _, .nil => .nil
  | _, _, .cons h r => .cons (Rp.mono e h) (RpA.mono e r)
theorem RpK.mono (e : Same H H') : ∀ {v : List (Key × V)} {d : List (Key × DD)}, RpK K cm H v d → RpK K cm H' v d
  | _, _, .nil => .nil
  | _, _, .cons h r => .cons (Rp.mono e h) (RpK.mono e r)
theorem RpF.mono (e : Same H H') : ∀ {v : List (Str × V)} {d : List (Str × DD)}, RpF K cm H v d → RpF K cm H' v d
  | _, _, .nil => .nil
  | _, _, .cons h r => .cons (Rp.mono e h) (RpF.mono e r)
end
theorem RpA.length : ∀ {v : List V} {d : List DD}, RpA K cm H v d → v.length = d.length
  | _, _, .nil => rfl
  | _, _, .cons _ r => congrArg Nat.succ (RpA.length r)
theorem RpA.append : ∀ {v v' : List V} {d d' : List DD}, RpA K cm H v d → RpA K cm H v' d' → RpA K cm H (v ++ v') (d ++ d')
  | _, _, _, _, .nil, s => s
  | _, _, _, _, .cons h r, s => .cons h (RpA.append r s)
theorem RpA.take : ∀ (n : Nat) {v : List V} {d : List DD}, RpA K cm H v d → RpA K cm H (v.take n) (d.take n)
  | 0, _, _, _ => .nil
  | _ + 1, _, _, .nil => .nil
  | n + 1, _, _, .cons h r => .cons h (RpA.take n r)
theorem RpA.drop : ∀ (n : Nat) {v : List V} {d : List DD}, RpA K cm H v d → RpA K cm H (v.drop n) (d.drop n)
  | 0, _, _, h => h
  | _ + 1, _, _, .nil => .nil
  | n + 1, _, _, .cons _ r => RpA.drop n r
theorem RpA.get : ∀ {n : Nat} {v : List V} {d : List DD} {x : DD}, RpA K cm H v d → d[n]? = some x → ∃ y, v[n]? = some y ∧ Rp K cm H y x
  | _, _, _, _, .nil, e => by simp at e
  | 0, _, _, _, .cons h _, e => by simp at e; subst e; exact ⟨_, rfl, h⟩
  | n + 1, _, _, _, .cons _ r, e => by
    obtain ⟨y, a, b⟩ := RpA.get (n := n) r (by simpa using e)
    exact ⟨y, by simpa using a, b⟩
theorem RpA.get' : ∀ {n : Nat} {v : List V} {d : List DD} {y : V}, RpA K cm H v d → v[n]? = some y → ∃ x, d[n]? = some x ∧ Rp K cm H y x
  | _, _, _, _, .nil, e => by simp at e
  | 0, _, _, _, .cons h _, e => by simp at e; subst e; exact ⟨_, rfl, h⟩
  | n + 1, _, _, _, .cons _ r, e => by
    obtain ⟨y, a, b⟩ := RpA.get' (n := n) r (by simpa using e)
    exact ⟨y, by simpa using a, b⟩
theorem RpA.set {y : V} {x : DD} (h : Rp K cm H y x) : ∀ (n : Nat) {v : List V} {d : List DD}, RpA K cm H v d → RpA K cm H (v.set n y) (d.set n x)
  | _, _, _, .nil => .nil
  | 0, _, _, .cons _ r => .cons h r
  | n + 1, _, _, .cons a r => .cons a (RpA.set h n r)
theorem RpA.reverse : ∀ {v : List V} {d : List DD}, RpA K cm H v d → RpA K cm H v.reverse d.reverse
  | _, _, .nil => .nil
  | _, _, .cons h r => by
    rw [List.reverse_cons, List.reverse_cons]
    exact (RpA.reverse r).append (.cons h .nil)
theorem RpA.one {v : V} {d : DD} (h : Rp K cm H v d) : RpA K cm H [v] [d] := .cons h .nil
theorem RpA.ints : ∀ ns : List Int, RpA K cm H (ns.map V.int) (ns.map DD.int)
  | [] => .nil
  | n :: ns => .cons (.int n) (RpA.ints ns)
theorem RpA.strs : ∀ ns : List Str, RpA K cm H (ns.map V.str) (ns.map DD.str)
  | [] => .nil
  | n :: ns => .cons (.str n) (RpA.strs ns)
theorem Rp.int_of {i : Int} {v : V} (h : Rp K cm H v (.int i)) : v = .int i := by cases h; rfl
theorem Rp.str_of {i : Str} {v : V} (h : Rp K cm H v (.str i)) : v = .str i := by cases h; rfl
theorem Rp.bl_of {i : Bool} {v : V} (h : Rp K cm H v (.bl i)) : v = .bl i := by cases h; rfl
theorem Rp.non_of {v : V} (h : Rp K cm H v .non) : v = .non := by cases h; rfl
theorem RpA.ints_of : ∀ {ns : List Int} {v : List V}, RpA K cm H v (ns.map DD.int) → v = ns.map V.int
  | [], _, .nil => rfl
  | n :: ns, _, .cons h r => by rw [h.int_of, RpA.ints_of r] <;> rfl
theorem RpA.strs_of : ∀ {ns : List Str} {v : List V}, RpA K cm H v (ns.map DD.str) → v = ns.map V.str
  | [], _, .nil => rfl
  | n :: ns, _, .cons h r => by rw [h.str_of, RpA.strs_of r] <;> rfl
theorem RpA.bls_of : ∀ {ns : List Bool} {v : List V}, RpA K cm H v (ns.map DD.bl) → v = ns.map V.bl
  | [], _, .nil => rfl
  | n :: ns, _, .cons h r => by rw [h.bl_of, RpA.bls_of r] <;> rfl
end
/-! ### results -/
structure Tau where
  cells : List Int
  at' : Int
  left : Int
abbrev TS' := Option Tau
structure Ex where
  cls : Str
  fs : List (Str × DD)
inductive R (α : Type) where
  | ok (a : α) (τ : TS') | ex (x : Ex) (τ : TS') | no
def R.bind {α β : Type} : R α → (α → TS' → R β) → R β
  | .ok a τ, f => f a τ
  | .ex x τ, _ => .ex x τ
  | .no, _ => .no
def R.of {α : Type} (τ : TS') : Option α → R α
  | some a => .ok a τ
  | none => .no
@[simp] theorem R.bind_ok {α β : Type} (a : α) (τ : TS') (f : α → TS' → R β) : (R.ok a τ).bind f = f a τ := id rfl
@[simp] theorem R.bind_ex {α β : Type} (a : Ex) (τ : TS') (f : α → TS' → R β) : (R.ex a τ).bind f = .ex a τ := id rfl
@[simp] theorem R.bind_no {α β : Type} (f : α → TS' → R β) : (R.no).bind f = .no := id rfl
@[simp] theorem R.of_some {α : Type} (τ : TS') (a : α) : R.of τ (some a) = .ok a τ := id rfl
@[simp] theorem R.of_none {α : Type} (τ : TS') : (R.of τ none : R α) = .no := id rfl
/-! ### the slots -/
/-- what a node of an owned tree is -/
inductive Kd where
  | lst | dK (ks : List Key) | obj (C : Str) (ns : List Str)
/-- an owned tree: its leaves stay as they are -/
inductive OT where
  | fr (d : DD) | nd (k : Kd) (ts : List OT)
inductive OC where
  | lst (xs : List DD) | dK (kvs : List (Key × DD)) | tr (k : Kd) (ts : List OT)
inductive PV where
  | fr (d : DD) | ow (c : OC) | tape | scr (ns : List Int)
abbrev PEnv := List (Option PV)
/-- what is fixed: the constants, the classes, how a tape lies -/
structure Wp where
  K : PySem.W.Frag
  cm : CM
  tk : Tau → Addr → HO
abbrev Wp.rp (W : Wp) := Rp W.K W.cm
abbrev Wp.ra (W : Wp) := RpA W.K W.cm
def NodeAt (W : Wp) (H : Hp) (a : Addr) (vs : List V) : Kd → Prop
  | .lst => H a = some (.lst vs)
  | .dK ks => ks.length = vs.length ∧ H a = some (.dK (ks.zip vs))
  | .obj C ns => ns.length = vs.length ∧ ∃ dx, H a = some (.ins (W.cm C) dx (ns.zip vs))
mutual
/-- a value stands for an owned tree; F: the addresses of its nodes -/
inductive Ow (W : Wp) (G H : Hp) : V → OT → List Addr → Prop
  | fr {v : V} {d : DD} : Rp W.K W.cm G v d → Ow W G H v (.fr d) []
  | nd {a : Addr} {k : Kd} {vs : List V} {ts : List OT} {F : List Addr} : NodeAt W H a vs k → OwA W G H vs ts F → a ∉ F → Ow W G H (.ref a) (.nd k ts) (a :: F)
inductive OwA (W : Wp) (G H : Hp) : List V → List OT → List Addr → Prop
  | nil : OwA W G H [] [] []
  | cons {v : V} {t : OT} {vs : List V} {ts : List OT} {F F' : List Addr} : Ow W G H v t F → OwA W G H vs ts F' → (∀ p ∈ F, p ∉ F') → OwA W G H (v :: vs) (t :: ts) (F ++ F')
end
def OwR (W : Wp) (G H : Hp) (a : Addr) : OC → List Addr → Prop
  | .lst xs, F => F = [a] ∧ ∃ vs, H a = some (.lst vs) ∧ RpA W.K W.cm G vs xs
  | .dK kvs, F => F = [a] ∧ ∃ vs, H a = some (.dK vs) ∧ RpK W.K W.cm G vs kvs
  | .tr k ts, F => Ow W G H (.ref a) (.nd k ts) F
section
variable {W : Wp} {G H G' H' : Hp}
theorem NodeAt.keep {a : Addr} {vs : List V} {k : Kd} (h : NodeAt W H a vs k) (e : ∀ o, H a = some o → H' a = some o) : NodeAt W H' a vs k := by
  cases k with
  | lst => exact e _ h
  | dK ks => exact ⟨h.1, e _ h.2⟩
  | obj C ns => obtain ⟨l, dx, h⟩ := h; exact ⟨l, dx, e _ h⟩
theorem NodeAt.at {a : Addr} {vs : List V} {k : Kd} (h : NodeAt W H a vs k) : H a ≠ none := by
  cases k with
  | lst => rw [show H a = _ from h]; simp
  | dK ks => rw [h.2]; simp
  | obj C ns => obtain ⟨l, dx, h⟩ := h; rw [h]; simp
theorem zip_inj {α β : Type} : ∀ {ks : List α} {vs us : List β}, ks.length = vs.length → ks.length = us.length → ks.zip vs = ks.zip us → vs = us
  | [], [], [], _, _, _ => rfl
  | k :: ks, v :: vs, u :: us, h1, h2, e => by
    simp only [List.zip_cons_cons, List.cons.injEq, Prod.mk.injEq, true_and] at e
    rw [e.1, zip_inj (Nat.succ.inj h1) (Nat.succ.inj h2) e.2]
theorem NodeAt.uniq {a : Addr} {vs us : List V} {k : Kd} (h : NodeAt W H a vs k) (h' : NodeAt W H a us k) : vs = us := by
  cases k with
  | lst => have h : H a = _ := h; have h' : H a = _ := h'; rw [h] at h'; cases h'; rfl
  | dK ks =>
    have e := h.2.symm.trans h'.2
    simp only [Option.some.injEq, HO.dK.injEq] at e
    exact zip_inj h.1 h'.1 e
  | obj C ns =>
    obtain ⟨l, dx, h⟩ := h
    obtain ⟨l', dx', h'⟩ := h'
    have e := h.symm.trans h'
    simp only [Option.some.injEq, HO.ins.injEq] at e
    exact zip_inj l l' e.2.2
mutual
theorem Ow.keep : ∀ {v : V} {t : OT} {F : List Addr}, Ow W G H v t F → Same G G' → (∀ p ∈ F, ∀ o, H p = some o → H' p = some o) → Ow W G' H' v t F
  | _, _, _, .fr r, g, _ => .fr (Rp.mono g r)
  | _, _, _, .nd h r n, g, e => .nd (h.keep (e _ List.mem_cons_self)) (OwA.keep r g fun p hp => e p (List.mem_cons_of_mem _ hp)) n
theorem OwA.keep : ∀ {v : List V} {t : List OT} {F : List Addr}, OwA W G H v t F → Same G G' → (∀ p ∈ F, ∀ o, H p = some o → H' p = some o) → OwA W G' H' v t F
  | _, _, _, .nil, _, _ => .nil
  | _, _, _, .cons h r n, g, e => .cons (Ow.keep h g fun p hp => e p (List.mem_append_left _ hp)) (OwA.keep r g fun p hp => e p (List.mem_append_right _ hp)) n
end
mutual
theorem Ow.at : ∀ {v : V} {t : OT} {F : List Addr}, Ow W G H v t F → ∀ p ∈ F, H p ≠ none
  | _, _, _, .fr r, p, hp => by cases hp
  | _, _, _, .nd h r n, p, hp => by
    rcases List.mem_cons.mp hp with rfl | hp
    · exact h.at
    · exact OwA.at r p hp
theorem OwA.at : ∀ {v : List V} {t : List OT} {F : List Addr}, OwA W G H v t F → ∀ p ∈ F, H p ≠ none
  | _, _, _, .nil, p, hp => by cases hp
  | _, _, _, .cons h r n, p, hp => by
    rcases List.mem_append.mp hp with hp | hp
    · exact Ow.at h p hp
    · exact OwA.at r p hp
end
mutual
theorem Ow.uniq : ∀ {v : V} {t : OT} {F F' : List Addr}, Ow W G H v t F → Ow W G' H v t F' → F = F'
  | _, _, _, _, .fr _, .fr _ => rfl
  | _, _, _, _, .nd h r _, .nd h' r' _ => by
    cases h.uniq h'
    rw [OwA.uniq r r']
theorem OwA.uniq : ∀ {v : List V} {t : List OT} {F F' : List Addr}, OwA W G H v t F → OwA W G' H v t F' → F = F'
  | _, _, _, _, .nil, .nil => rfl
  | _, _, _, _, .cons h r _, .cons h' r' _ => by rw [Ow.uniq h h', OwA.uniq r r']
end
theorem OwR.keep {a : Addr} {c : OC} {F : List Addr} (h : OwR W G H a c F) (g : Same G G') (k : ∀ p ∈ F, ∀ o, H p = some o → H' p = some o) : OwR W G' H' a c F := by
  cases c with
  | lst xs => obtain ⟨rfl, vs, e, r⟩ := h; exact ⟨rfl, vs, k a (by simp) _ e, r.mono g⟩
  | dK xs => obtain ⟨rfl, vs, e, r⟩ := h; exact ⟨rfl, vs, k a (by simp) _ e, r.mono g⟩
  | tr q ts => exact Ow.keep (show Ow W G H _ _ _ from h) g k
theorem OwR.at {a : Addr} {c : OC} {F : List Addr} (h : OwR W G H a c F) : ∀ p ∈ F, H p ≠ none := by
  cases c with
  | lst xs => obtain ⟨rfl, vs, e, r⟩ := h; intro p hp; rw [List.mem_singleton.mp hp, e]; simp
  | dK xs => obtain ⟨rfl, vs, e, r⟩ := h; intro p hp; rw [List.mem_singleton.mp hp, e]; simp
  | tr q ts => exact Ow.at (show Ow W G H _ _ _ from h)
theorem OwR.mem {a : Addr} {c : OC} {F : List Addr} (h : OwR W G H a c F) : a ∈ F := by
  cases c with
  | lst xs => obtain ⟨rfl, _⟩ := h; simp
  | dK xs => obtain ⟨rfl, _⟩ := h; simp
  | tr q ts => cases (show Ow W G H _ _ _ from h) with | nd _ _ _ => exact List.mem_cons_self
theorem OwR.uniq {a : Addr} {c : OC} {F F' : List Addr} (h : OwR W G H a c F) (h' : OwR W G' H a c F') : F = F' := by
  cases c with
  | lst xs => rw [h.1, h'.1]
  | dK xs => rw [h.1, h'.1]
  | tr q ts => exact Ow.uniq (show Ow W G H _ _ _ from h) (show Ow W G' H _ _ _ from h')
end
def TapeR (W : Wp) (G H : Hp) (tp : Addr) (τ : Tau) : Prop := G tp = none ∧ ∃ c, G c = some (.lst (τ.cells.map V.int)) ∧ H tp = some (W.tk τ c)
def TapeO (W : Wp) (G H : Hp) : Option Addr → TS' → Prop
  | none, none => True
  | some a, some τ => TapeR W G H a τ
  | _, _ => False
def SlotR (W : Wp) (tp : Option Addr) (G H : Hp) : Option V → Option PV → Prop
  | _, none => True
  | some v, some (.fr d) => Rp W.K W.cm G v d
  | some v, some (.ow c) => ∃ a F, v = .ref a ∧ OwR W G H a c F ∧ ∀ p ∈ F, G p = none ∧ tp ≠ some p
  | some v, some .tape => ∃ a, tp = some a ∧ v = .ref a
  | some v, some (.scr ns) => ∃ a, v = .ref a ∧ SqL W.K G a (ns.map V.int)
  | _, _ => False
structure EnvV (W : Wp) (tp : Option Addr) (G H : Hp) (σ : L2.St) (ρ : PEnv) (τ : TS') : Prop where
  g : Same G H
  s : Paired (SlotR W tp G H) σ ρ
  d : ∀ (i j : Nat) (a b : Addr) (c c' : OC) (F F' : List Addr), ρ[i]? = some (some (PV.ow c)) → ρ[j]? = some (some (PV.ow c')) → σ[i]? = some (some (V.ref a)) → σ[j]? = some (some (V.ref b)) → OwR W G H a c F → OwR W G H b c' F' → ∀ p, p ∈ F → p ∈ F' → i = j
  t : TapeO W G H tp τ
structure Ext (tp : Option Addr) (G H G' H' : Hp) : Prop where
  g : Same G G'
  h : ∀ p o, tp ≠ some p → H p = some o → H' p = some o
  f : ∀ p, tp ≠ some p → H p ≠ none → G p = none → G' p = none
theorem Paired.getL {α β : Type} {F : α → β → Prop} : ∀ {xs : List α} {ys : List β} {i : Nat} {y : β}, Paired F xs ys → ys[i]? = some y → ∃ x, xs[i]? = some x ∧ F x y
  | _, _, _, _, .nil, e => by simp at e
  | _, _, 0, _, .cons h _, e => by simp at e; subst e; exact ⟨_, rfl, h⟩
  | _, _, i + 1, _, .cons _ r, e => by
    obtain ⟨u, h1, h2⟩ := Paired.getL (i := i) r (by simpa using e)
    exact ⟨u, by simpa using h1, h2⟩
theorem Paired.setL {α β : Type} {F : α → β → Prop} {x : α} {y : β} (h : F x y) : ∀ {xs : List α} {ys : List β} (i : Nat), Paired F xs ys → Paired F (xs.set i x) (ys.set i y)
  | _, _, _, .nil => .nil
  | _, _, 0, .cons _ t => .cons h t
  | _, _, i + 1, .cons q t => .cons q (Paired.setL h i t)
/-- each pair may use where it stands -/
theorem Paired.mapI {α β : Type} {F F' : α → β → Prop} : ∀ {xs : List α} {ys : List β}, Paired F xs ys → (∀ (i : Nat) x y, xs[i]? = some x → ys[i]? = some y → F x y → F' x y) → Paired F' xs ys
  | _, _, .nil, _ => .nil
  | _, _, .cons h t, k => .cons (k 0 _ _ rfl rfl h) (Paired.mapI t fun i x y a b c => k (i + 1) x y (by simpa using a) (by simpa using b) c)
section
variable {W : Wp} {tp : Option Addr} {G H G' H' G2 H2 : Hp} {σ : L2.St} {ρ : PEnv} {τ τ' : TS'} {o : HO}
theorem Ext.refl : Ext tp G H G H := ⟨Same.refl _, fun _ _ _ h => h, fun _ _ _ h => h⟩
theorem Ext.trans (e : Ext tp G H G' H') (e' : Ext tp G' H' G2 H2) : Ext tp G H G2 H2 := by
  refine ⟨e.g.trans e'.g, fun p o n h => e'.h p o n (e.h p o n h), fun p n hp hg => e'.f p n ?_ (e.f p n hp hg)⟩
  cases z : H p with
  | none => exact absurd z hp
  | some o => rw [e.h p o n z]; simp
theorem Ext.weak (e : Ext none G H G' H') : Ext tp G H G' H' := ⟨e.g, fun p o _ => e.h p o (by simp), fun p _ => e.f p (by simp)⟩
theorem Ext.new {p : Addr} (n : H p = none) (g : Same G H) : Ext tp G H (upd G p o) (upd H p o) :=
  ⟨same_new (g.free n), fun q u _ h => by rw [upd_ne (ne_of_none h n)]; exact h, fun q _ h hg => by
    rw [upd_ne (fun z => h (by rw [z]; exact n))]; exact hg⟩
theorem Ext.newH {p : Addr} (n : H p = none) : Ext tp G H G (upd H p o) :=
  ⟨Same.refl _, fun q u _ h => by rw [upd_ne (ne_of_none h n)]; exact h, fun q _ h hg => hg⟩
theorem SlotR.ext {v : Option V} {p : Option PV} (h : SlotR W tp G H v p) (e : Ext tp G H G' H') : SlotR W tp G' H' v p := by
  match v, p, h with
  | _, none, _ => trivial
  | some v, some (.fr d), h => exact Rp.mono e.g h
  | some v, some (.ow c), ⟨a, F, r, w, gn⟩ => exact ⟨a, F, r, w.keep e.g fun p hp o => e.h p o (gn p hp).2, fun p hp => ⟨e.f p (gn p hp).2 (w.at p hp) (gn p hp).1, (gn p hp).2⟩⟩
  | some v, some .tape, h => exact h
  | some v, some (.scr ns), ⟨a, r, q⟩ => exact ⟨a, r, e.g.seq q⟩
/-- the owned thing of a slot -/
theorem EnvV.own {i : Nat} {a : Addr} {c : OC} (E : EnvV W tp G H σ ρ τ) (hi : ρ[i]? = some (some (PV.ow c))) (ha : σ[i]? = some (some (V.ref a))) : ∃ F, OwR W G H a c F ∧ ∀ p ∈ F, G p = none ∧ tp ≠ some p := by
  obtain ⟨v, h1, h2⟩ := Paired.getL E.s hi
  rw [ha] at h1
  cases h1
  obtain ⟨b, F, r, w, gn⟩ := h2
  cases r
  exact ⟨F, w, gn⟩
theorem EnvV.ownS {i : Nat} {c : OC} (E : EnvV W tp G H σ ρ τ) (hi : ρ[i]? = some (some (PV.ow c))) : ∃ a F, σ[i]? = some (some (V.ref a)) ∧ OwR W G H a c F ∧ ∀ p ∈ F, G p = none ∧ tp ≠ some p := by
  obtain ⟨v, h1, h2⟩ := Paired.getL E.s hi
  cases v with
  | none => exact h2.elim
  | some v =>
    obtain ⟨b, F, rfl, w, gn⟩ := h2
    exact ⟨b, F, h1, w, gn⟩
/-- what is owned later with F was owned with F -/
theorem EnvV.back {i : Nat} {a : Addr} {c : OC} {F : List Addr} (E : EnvV W tp G H σ ρ τ) (g : Same G G') (k : ∀ p o, (∀ F0, OwR W G H a c F0 → p ∈ F0) → H p = some o → H' p = some o) (hi : ρ[i]? = some (some (PV.ow c))) (ha : σ[i]? = some (some (V.ref a))) (w : OwR W G' H' a c F) : OwR W G H a c F := by
  obtain ⟨F0, w0, gn⟩ := E.own hi ha
  have w1 : OwR W G' H' a c F0 := w0.keep g fun p hp o => k p o fun F1 w1 => by rw [w1.uniq w0]; exact hp
  rw [w.uniq w1]
  exact w0
theorem EnvV.backE {i : Nat} {a : Addr} {c : OC} {F : List Addr} (E : EnvV W tp G H σ ρ τ) (e : Ext tp G H G' H') (hi : ρ[i]? = some (some (PV.ow c))) (ha : σ[i]? = some (some (V.ref a))) (w : OwR W G' H' a c F) : OwR W G H a c F := by
  obtain ⟨F0, w0, gn⟩ := E.own hi ha
  exact E.back e.g (fun p o hp => e.h p o (gn p (hp F0 w0)).2) hi ha w
theorem EnvV.ext (E : EnvV W tp G H σ ρ τ) (e : Ext tp G H G' H') (g : Same G' H') (t : TapeO W G' H' tp τ') : EnvV W tp G' H' σ ρ τ' :=
  ⟨g, Paired.mapI E.s fun _ _ _ _ _ h => h.ext e, fun i j a b c c' F F' h1 h2 h3 h4 w w' => E.d i j a b c c' F F' h1 h2 h3 h4 (E.backE e h1 h3 w) (E.backE e h2 h4 w'), t⟩
theorem TapeO.ext (t : TapeO W G H tp τ) (e : Ext none G H G' H') : TapeO W G' H' tp τ := by
  match tp, τ, t with
  | none, none, _ => trivial
  | some a, some τ, ⟨g, c, s, h⟩ => exact ⟨e.f a (by simp) (by rw [h]; simp) g, c, e.g _ _ s, e.h a _ (by simp) h⟩
/-- what only grows -/
theorem EnvV.grow (E : EnvV W tp G H σ ρ τ) (e : Ext none G H G' H') (g : Same G' H') : EnvV W tp G' H' σ ρ τ := E.ext e.weak g (E.t.ext e)
theorem EnvV.new {p : Addr} (E : EnvV W tp G H σ ρ τ) (n : H p = none) : EnvV W tp (upd G p o) (upd H p o) σ ρ τ := E.grow (Ext.new n E.g) (same_both E.g)
theorem EnvV.newH {p : Addr} (E : EnvV W tp G H σ ρ τ) (n : H p = none) : EnvV W tp G (upd H p o) σ ρ τ := E.grow (Ext.newH n) (E.g.trans (same_new n))
end
/-! ### denotations of expressions, tests, arguments -/
section
variable (W : Wp) (Wx : L2.St → XK) {α β : Type} (rel : Option Addr → Hp → β → α → Prop)
/-- an exception has come -/
def ExR (G H : Hp) (x : Ex) (d : Option Addr) : Prop := ∃ vs, XdAt G d vs ∧ RpF W.K W.cm G vs x.fs
def Pg (tp : Option Addr) (σ : L2.St) (ρ : PEnv) (G H : Hp) (Q : β → Hp → Prop) : R α → Prop
  | .ok a τ => ∀ b G' H', Ext tp G H G' H' → EnvV W tp G' H' σ ρ τ → rel tp G' b a → Q b H'
  | .ex x τ => ∀ d G' H', Ext tp G H G' H' → EnvV W tp G' H' σ ρ τ → ExR W G' H' x d → Wx σ (.ref (W.cm x.cls)) d H'
  | .no => False
def DnG (t : L2.St → Hp → (β → Hp → Prop) → Prop) (δ : PEnv → TS' → R α) : Prop :=
  ∀ tp G H σ ρ τ (Q : β → Hp → Prop), EnvV W tp G H σ ρ τ → Pg W Wx rel tp σ ρ G H Q (δ ρ τ) → t σ H Q
end
section
variable {W : Wp} {Wx : L2.St → XK} {α β α' β' : Type} {rel : Option Addr → Hp → β → α → Prop} {rel' : Option Addr → Hp → β' → α' → Prop}
variable {tp : Option Addr} {G H G' H' : Hp} {σ : L2.St} {ρ : PEnv} {τ : TS'} {Q : β' → Hp → Prop} {Q' : β → Hp → Prop} {r : R α} {f : α → TS' → R α'}
theorem Pg.shift {r : R α'} (P : Pg W Wx rel' tp σ ρ G H Q r) (e : Ext tp G H G' H') : Pg W Wx rel' tp σ ρ G' H' Q r := by
  cases r with
  | ok a τ => exact fun b G2 H2 e2 => P b G2 H2 (e.trans e2)
  | ex x τ => exact fun d G2 H2 e2 => P d G2 H2 (e.trans e2)
  | no => exact P
theorem Pg.bind (P : Pg W Wx rel' tp σ ρ G H Q (r.bind f))
    (k : ∀ a τ1 b G1 H1, Ext tp G H G1 H1 → EnvV W tp G1 H1 σ ρ τ1 → rel tp G1 b a → Pg W Wx rel' tp σ ρ G1 H1 Q (f a τ1) → Q' b H1) : Pg W Wx rel tp σ ρ G H Q' r := by
  cases r with
  | ok a τ => exact fun b G2 H2 e2 E2 r2 => k a τ b G2 H2 e2 E2 r2 (Pg.shift (r := f a τ) P e2)
  | ex x τ => exact P
  | no => exact P
theorem Pg.ret {r : R α'} {a : α'} {b : β'} (e : r = .ok a τ) (P : Pg W Wx rel' tp σ ρ G H Q r) (E : EnvV W tp G H σ ρ τ) (h : rel' tp G b a) : Q b H := by
  subst e
  exact P b G H Ext.refl E h
end
abbrev rE (W : Wp) : Option Addr → Hp → V → DD → Prop := fun _ G v d => Rp W.K W.cm G v d
abbrev rT : Option Addr → Hp → Bool → Bool → Prop := fun _ _ b c => b = c
abbrev rA (W : Wp) : Option Addr → Hp → List V → List DD → Prop := fun _ G v d => RpA W.K W.cm G v d
def ArgR (W : Wp) (tp : Option Addr) (G : Hp) (v : V) : PV → Prop
  | .fr d => Rp W.K W.cm G v d
  | .tape => ∃ a, tp = some a ∧ v = .ref a
  | .ow _ => False
  | .scr ns => ∃ a, v = .ref a ∧ SqL W.K G a (ns.map V.int)
abbrev rP (W : Wp) : Option Addr → Hp → V → PV → Prop := fun tp G v d => ArgR W tp G v d
abbrev rPs (W : Wp) : Option Addr → Hp → List V → List PV → Prop := fun tp G v d => Paired (ArgR W tp G) v d
abbrev DE := PEnv → TS' → R DD
abbrev DT := PEnv → TS' → R Bool
abbrev DA := PEnv → TS' → R (List DD)
abbrev DP := PEnv → TS' → R PV
abbrev DPs := PEnv → TS' → R (List PV)
abbrev Dn (W : Wp) (Wx : L2.St → XK) (t : TE) (δ : DE) : Prop := DnG W Wx (rE W) t δ
abbrev DnT (W : Wp) (Wx : L2.St → XK) (t : TT) (δ : DT) : Prop := DnG W Wx rT t δ
abbrev DnA (W : Wp) (Wx : L2.St → XK) (t : TA) (δ : DA) : Prop := DnG W Wx (rA W) t δ
abbrev DnPs (W : Wp) (Wx : L2.St → XK) (t : TA) (δ : DPs) : Prop := DnG W Wx (rPs W) t δ
abbrev DnP (W : Wp) (Wx : L2.St → XK) (t : TE) (δ : DP) : Prop := DnG W Wx (rP W) t δ
/-! ### rules -/
def dC (d : DD) : DE := fun _ τ => .ok d τ
def dV (i : Nat) : DE := fun ρ τ => match ρ[i]? with
  | some (some (.fr d)) => .ok d τ
  | _ => .no
def dOp (g : DD → DD → Option DD) (a b : DE) : DE := fun ρ τ => (a ρ τ).bind fun x τ1 => (b ρ τ1).bind fun y τ2 => R.of τ2 (g x y)
def dUn (g : DD → Option DD) (a : DE) : DE := fun ρ τ => (a ρ τ).bind fun x τ1 => R.of τ1 (g x)
/-- an operator's reading answers g -/
def OpD (W : Wp) (r : R2) (g : DD → DD → Option DD) : Prop := ∀ (G H : Hp) (x y : V) (a b c : DD) (Q : VK), Same G H → Rp W.K W.cm G x a → Rp W.K W.cm G y b → g a b = some c →
  (∀ v G' H', Ext none G H G' H' → Same G' H' → Rp W.K W.cm G' v c → Q v H') → r x y H Q
def UnD (W : Wp) (r : V → Hp → VK → Prop) (g : DD → Option DD) : Prop := ∀ (G H : Hp) (x : V) (a c : DD) (Q : VK), Same G H → Rp W.K W.cm G x a → g a = some c →
  (∀ v G' H', Ext none G H G' H' → Same G' H' → Rp W.K W.cm G' v c → Q v H') → r x H Q
def CallD (W : Wp) (r : List V → Hp → VK → Prop) (g : List DD → Option DD) : Prop := ∀ (G H : Hp) (x : List V) (a : List DD) (c : DD) (Q : VK), Same G H → RpA W.K W.cm G x a → g a = some c →
  (∀ v G' H', Ext none G H G' H' → Same G' H' → Rp W.K W.cm G' v c → Q v H') → r x H Q
section
variable {W : Wp} {Wx : L2.St → XK} {ta tb : TE} {δa δb : DE}
theorem dn_c {v : V} {d : DD} (h : ∀ G, Rp W.K W.cm G v d) : Dn W Wx (tC v) (dC d) := fun tp G H σ ρ τ Q E P => P v G H Ext.refl E (h G)
theorem dn_int {i : Int} : Dn W Wx (tC (.int i)) (dC (.int i)) := dn_c fun _ => .int i
theorem dn_str {i : Str} : Dn W Wx (tC (.str i)) (dC (.str i)) := dn_c fun _ => .str i
theorem dn_bl {i : Bool} : Dn W Wx (tC (.bl i)) (dC (.bl i)) := dn_c fun _ => .bl i
theorem dn_non : Dn W Wx (tC .non) (dC .non) := dn_c fun _ => .non
theorem dn_v {i : Nat} : Dn W Wx (tVar i) (dV i) := fun tp G H σ ρ τ Q E P => by
  unfold dV at P
  split at P
  · rename_i d e
    obtain ⟨x, h1, h2⟩ := Paired.getL E.s e
    cases x with
    | none => exact h2.elim
    | some v => exact ⟨v, h1, P v G H Ext.refl E h2⟩
  · exact P.elim
theorem Pg.of {α β : Type} {rel : Option Addr → Hp → β → α → Prop} {tp : Option Addr} {G H : Hp} {σ : L2.St} {ρ : PEnv} {τ : TS'} {Q : β → Hp → Prop} {o : Option α} (P : Pg W Wx rel tp σ ρ G H Q (R.of τ o)) : ∃ a, o = some a ∧ Pg W Wx rel tp σ ρ G H Q (.ok a τ) := by
  cases o with
  | none => exact P.elim
  | some a => exact ⟨a, rfl, P⟩
theorem dn_op {r : R2} {g : DD → DD → Option DD} (ho : OpD W r g) (ha : Dn W Wx ta δa) (hb : Dn W Wx tb δb) : Dn W Wx (tOp r ta tb) (dOp g δa δb) := fun tp G H σ ρ τ Q E P =>
  ha _ _ _ _ _ _ _ E (P.bind fun a τ1 x G1 H1 e1 E1 r1 P1 => hb _ _ _ _ _ _ _ E1 (P1.bind fun b τ2 y G2 H2 e2 E2 r2 P2 => by
    obtain ⟨c, hc, P3⟩ := P2.of
    exact ho G2 H2 x y a b c Q E2.g (Rp.mono e2.g r1) r2 hc fun v G3 H3 e3 g3 r3 => P3 v G3 H3 e3.weak (E2.grow e3 g3) r3))
theorem dn_un {r : V → Hp → VK → Prop} {g : DD → Option DD} (ho : UnD W r g) (ha : Dn W Wx ta δa) : Dn W Wx (tUn r ta) (dUn g δa) := fun tp G H σ ρ τ Q E P =>
  ha _ _ _ _ _ _ _ E (P.bind fun a τ1 x G1 H1 e1 E1 r1 P1 => by
    obtain ⟨c, hc, P3⟩ := P1.of
    exact ho G1 H1 x a c Q E1.g r1 hc fun v G3 H3 e3 g3 r3 => P3 v G3 H3 e3.weak (E1.grow e3 g3) r3)
end
end Np

set_option Elab.async false
set_option linter.all false
set_option maxRecDepth 100000
set_option maxHeartbeats 4000000
namespace Np
open PySem PySem.Spec PyProof.Rows L2
/-! ### operators -/
def oInt (g : Int → Int → Option DD) : DD → DD → Option DD
  | .int i, .int j => g i j
  | _, _ => none
def oStr (g : Str → Str → Option DD) : DD → DD → Option DD
  | .str i, .str j => g i j
  | _, _ => none
instance (i j : Int) : Decidable (CMul i j) := by unfold CMul; infer_instance
instance (i j : Int) : Decidable (CDiv i j) := by unfold CDiv; infer_instance
instance (i j : Int) : Decidable (CDivN i j) := by unfold CDivN; infer_instance
instance (i j : Int) : Decidable (CPow i j) := by unfold CPow; infer_instance
theorem ext_n {G H : Hp} : Ext none G H G H := Ext.refl
section
variable {W : Wp}
theorem od_I0 {f : Int → Int → V} {g : Int → Int → DD} (h : ∀ i j G, Rp W.K W.cm G (f i j) (g i j)) : OpD W (rI0 f) (oInt fun i j => some (g i j)) := by
  intro G H x y a b c Q s ra rb e k
  cases a <;> cases b <;> first | (cases e; done) | skip
  rename_i i j
  cases e
  exact ⟨i, j, ra.int_of, rb.int_of, k _ G H ext_n s (h i j G)⟩
theorem od_I {C : Int → Int → Prop} [∀ i j, Decidable (C i j)] {f : Int → Int → V} {g : Int → Int → DD} (h : ∀ i j G, Rp W.K W.cm G (f i j) (g i j)) : OpD W (rI C f) (oInt fun i j => if C i j then some (g i j) else none) := by
  intro G H x y a b c Q s ra rb e k
  cases a <;> cases b <;> first | (cases e; done) | skip
  rename_i i j
  have e : (if C i j then some (g i j) else none) = some c := e
  split at e
  · rename_i hc
    cases e
    exact ⟨i, j, ra.int_of, rb.int_of, hc, k _ G H ext_n s (h i j G)⟩
  · cases e
abbrev gAdd := oInt fun i j => some (.int (i + j))
abbrev gSub := oInt fun i j => some (.int (i - j))
abbrev gMul := oInt fun i j => if CMul i j then some (.int (i * j)) else none
abbrev gFdiv := oInt fun i j => if CDiv i j then some (.int (i / j)) else none
abbrev gFdivN := oInt fun i j => if CDivN i j then some (.int (i.fdiv j)) else none
abbrev gMod := oInt fun i j => if 0 < j then some (.int (i % j)) else none
abbrev gPow := oInt fun i j => if CPow i j then some (.int (i ^ j.toNat)) else none
abbrev gShr := oInt fun i j => if 0 ≤ j then some (.int (i / 2 ^ j.toNat)) else none
abbrev gAnd := oInt fun i j => some (.int (Builtin.bitAnd i j))
abbrev gXor := oInt fun i j => some (.int (Builtin.bitXor i j))
abbrev gLt := oInt fun i j => some (.bl (decide (i < j)))
abbrev gLe := oInt fun i j => some (.bl (decide (i ≤ j)))
abbrev gGt := oInt fun i j => some (.bl (decide (j < i)))
abbrev gGe := oInt fun i j => some (.bl (decide (j ≤ i)))
theorem od_add : OpD W (rI0 fun i j => .int (i + j)) gAdd := od_I0 fun _ _ _ => .int _
theorem od_sub : OpD W (rI0 fun i j => .int (i - j)) gSub := od_I0 fun _ _ _ => .int _
theorem od_mul : OpD W (rI CMul fun i j => .int (i * j)) gMul := od_I fun _ _ _ => .int _
theorem od_fdiv : OpD W (rI CDiv fun i j => .int (i / j)) gFdiv := od_I fun _ _ _ => .int _
theorem od_fdivN : OpD W (rI CDivN fun i j => .int (i.fdiv j)) gFdivN := od_I fun _ _ _ => .int _
theorem od_mod : OpD W (rI (fun _ j => 0 < j) fun i j => .int (i % j)) gMod := od_I fun _ _ _ => .int _
theorem od_pow : OpD W (rI CPow fun i j => .int (i ^ j.toNat)) gPow := od_I fun _ _ _ => .int _
theorem od_shr : OpD W (rI (fun _ j => 0 ≤ j) fun i j => .int (i / 2 ^ j.toNat)) gShr := od_I fun _ _ _ => .int _
theorem od_and : OpD W (rI0 fun i j => .int (Builtin.bitAnd i j)) gAnd := od_I0 fun _ _ _ => .int _
theorem od_xor : OpD W (rI0 fun i j => .int (Builtin.bitXor i j)) gXor := od_I0 fun _ _ _ => .int _
theorem od_lt : OpD W (rI0 fun i j => .bl (decide (i < j))) gLt := od_I0 fun _ _ _ => .bl _
theorem od_le : OpD W (rI0 fun i j => .bl (decide (i ≤ j))) gLe := od_I0 fun _ _ _ => .bl _
theorem od_gt : OpD W (rI0 fun i j => .bl (decide (j < i))) gGt := od_I0 fun _ _ _ => .bl _
theorem od_ge : OpD W (rI0 fun i j => .bl (decide (j ≤ i))) gGe := od_I0 fun _ _ _ => .bl _
theorem od_S {f : Str → Str → V} {g : Str → Str → DD} (h : ∀ i j G, Rp W.K W.cm G (f i j) (g i j)) : OpD W (fun x y H Q => ∃ i j, x = .str i ∧ y = .str j ∧ Q (f i j) H) (oStr fun i j => some (g i j)) := by
  intro G H x y a b c Q s ra rb e k
  cases a <;> cases b <;> first | (cases e; done) | skip
  rename_i i j
  cases e
  exact ⟨i, j, ra.str_of, rb.str_of, k _ G H ext_n s (h i j G)⟩
abbrev gLtS := oStr fun i j => some (.bl (decide (i.cps.toList < j.cps.toList)))
abbrev gLeS := oStr fun i j => some (.bl (!decide (j.cps.toList < i.cps.toList)))
abbrev gGtS := oStr fun i j => some (.bl (decide (j.cps.toList < i.cps.toList)))
theorem od_lt_str : OpD W (fun x y H Q => ∃ i j, x = .str i ∧ y = .str j ∧ Q (.bl (decide (i.cps.toList < j.cps.toList))) H) gLtS := od_S fun _ _ _ => .bl _
theorem od_le_str : OpD W (fun x y H Q => ∃ i j, x = .str i ∧ y = .str j ∧ Q (.bl (!decide (j.cps.toList < i.cps.toList))) H) gLeS := od_S fun _ _ _ => .bl _
theorem od_gt_str : OpD W (fun x y H Q => ∃ i j, x = .str i ∧ y = .str j ∧ Q (.bl (decide (j.cps.toList < i.cps.toList))) H) gGtS := od_S fun _ _ _ => .bl _
abbrev gInS := oStr fun i j => some (.bl (!(Builtin.Str.occurrences j i 0 j.length 1).isEmpty))
abbrev gNotInS := oStr fun i j => some (.bl (!(!(Builtin.Str.occurrences j i 0 j.length 1).isEmpty)))
theorem od_in_str : OpD W (fun x y H Q => ∃ i j, x = .str i ∧ y = .str j ∧ Q (.bl (!(Builtin.Str.occurrences j i 0 j.length 1).isEmpty)) H) gInS := od_S fun _ _ _ => .bl _
theorem od_notin_str : OpD W (fun x y H Q => ∃ i j, x = .str i ∧ y = .str j ∧ Q (.bl (!(!(Builtin.Str.occurrences j i 0 j.length 1).isEmpty))) H) gNotInS := od_S fun _ _ _ => .bl _
abbrev gCatS := oStr fun i j => if i.length + j.length ≤ sizeLine then some (.str (i ++ j)) else none
theorem od_add_str : OpD W (fun x y H Q => ∃ i j, x = .str i ∧ y = .str j ∧ i.length + j.length ≤ sizeLine ∧ Q (.str (i ++ j)) H) gCatS := by
  intro G H x y a b c Q s ra rb e k
  cases a <;> cases b <;> first | (cases e; done) | skip
  rename_i i j
  have e : (if i.length + j.length ≤ sizeLine then some (DD.str (i ++ j)) else none) = some c := e
  split at e
  · rename_i hc
    cases e
    exact ⟨i, j, ra.str_of, rb.str_of, hc, k _ G H ext_n s (.str _)⟩
  · cases e
/-- a sign in a text -/
def gInC (neg : Bool) : DD → DD → Option DD := oStr fun i z => match i.cps.toList with
  | [c] => some (.bl (if neg then !decide (c ∈ z.cps.toList) else decide (c ∈ z.cps.toList)))
  | _ => none
theorem str_one {i : Str} {c : Nat} (h : i.cps.toList = [c]) : i = ⟨#[c]⟩ := by
  cases i with
  | mk a =>
    congr 1
    exact Array.toList_inj.mp h
theorem od_in_sign : OpD W (fun x y H Q => ∃ (c : Nat) (z : Str), x = .str ⟨#[c]⟩ ∧ y = .str z ∧ Q (.bl (decide (c ∈ z.cps.toList))) H) (gInC false) := by
  intro G H x y a b c Q s ra rb e k
  cases a <;> cases b <;> first | (cases e; done) | skip
  rename_i i z
  unfold gInC oStr at e
  simp only at e
  split at e
  · rename_i c' h
    cases e
    exact ⟨c', z, by rw [ra.str_of, str_one h], rb.str_of, k _ G H ext_n s (.bl _)⟩
  · cases e
theorem od_notIn_sign : OpD W (fun x y H Q => ∃ (c : Nat) (z : Str), x = .str ⟨#[c]⟩ ∧ y = .str z ∧ Q (.bl (!decide (c ∈ z.cps.toList))) H) (gInC true) := by
  intro G H x y a b c Q s ra rb e k
  cases a <;> cases b <;> first | (cases e; done) | skip
  rename_i i z
  unfold gInC oStr at e
  simp only at e
  split at e
  · rename_i c' h
    cases e
    exact ⟨c', z, by rw [ra.str_of, str_one h], rb.str_of, k _ G H ext_n s (.bl _)⟩
  · cases e
instance (z : Str) (n : Int) : Decidable (MulOk z n) := by unfold MulOk; infer_instance
def gMulS : DD → DD → Option DD
  | .str z, .int n => if MulOk z n then some (.str (Txt.mul z n)) else none
  | _, _ => none
theorem od_mulS : OpD W (fun x y H Q => ∃ (z : Str) (n : Int), x = .str z ∧ y = .int n ∧ MulOk z n ∧ Q (.str (Txt.mul z n)) H) gMulS := by
  intro G H x y a b c Q s ra rb e k
  unfold gMulS at e
  split at e
  · rename_i z n
    split at e
    · rename_i hc
      cases e
      exact ⟨z, n, ra.str_of, rb.int_of, hc, k _ G H ext_n s (.str _)⟩
    · cases e
  · cases e
/-! == of flat ones -/
def gEq (neg : Bool) : DD → DD → Option DD
  | .int i, .int j => some (.bl (if neg then !decide (i = j) else decide (i = j)))
  | .str i, .str j => some (.bl (if neg then !decide (i = j) else decide (i = j)))
  | .bl i, .bl j => some (.bl (if neg then !decide (i = j) else decide (i = j)))
  | .non, .non => some (.bl (!neg))
  | .non, .int _ => some (.bl neg)
  | .int _, .non => some (.bl neg)
  | .non, .bl _ => some (.bl neg)
  | .bl _, .non => some (.bl neg)
  | .non, .str _ => some (.bl neg)
  | .str _, .non => some (.bl neg)
  | .int _, .str _ => some (.bl neg)
  | .str _, .int _ => some (.bl neg)
  | .bl _, .str _ => some (.bl neg)
  | .str _, .bl _ => some (.bl neg)
  | _, _ => none
theorem od_eq : OpD W rEq (gEq false) := by
  intro G H x y a b c Q s ra rb e k
  unfold gEq at e
  split at e <;> first | (cases e; done) | skip
  all_goals
    cases e
    cases ra
    cases rb
    refine ⟨rfl, ?_⟩
    have q := k _ G H ext_n s (.bl _)
    simpa using q
theorem od_ne : OpD W rNe (gEq true) := by
  intro G H x y a b c Q s ra rb e k
  unfold gEq at e
  split at e <;> first | (cases e; done) | skip
  all_goals
    cases e
    cases ra
    cases rb
    refine ⟨rfl, ?_⟩
    have q := k _ G H ext_n s (.bl _)
    simpa using q
/-! is None -/
def gIsN (neg : Bool) : DD → DD → Option DD
  | .non, .non => some (.bl (!neg))
  | _, .non => some (.bl neg)
  | _, _ => none
theorem od_isN : OpD W (fun x y H Q => y = .non ∧ Q (.bl (decide (x = .non))) H) (gIsN false) := by
  intro G H x y a b c Q s ra rb e k
  unfold gIsN at e
  split at e <;> first | (cases e; done) | skip
  · cases e; cases ra; cases rb
    exact ⟨rfl, k _ G H ext_n s (.bl _)⟩
  · cases e; cases rb
    have q := k _ G H ext_n s (.bl _)
    cases ra <;> first | exact ⟨rfl, q⟩ | (rename_i h; exact (h rfl).elim)
theorem od_notN : OpD W (fun x y H Q => y = .non ∧ Q (.bl (!decide (x = .non))) H) (gIsN true) := by
  intro G H x y a b c Q s ra rb e k
  unfold gIsN at e
  split at e <;> first | (cases e; done) | skip
  · cases e; cases ra; cases rb
    exact ⟨rfl, k _ G H ext_n s (.bl _)⟩
  · cases e; cases rb
    have q := k _ G H ext_n s (.bl _)
    cases ra <;> first | exact ⟨rfl, q⟩ | (rename_i h; exact (h rfl).elim)
end
end Np

set_option Elab.async false
set_option linter.all false
set_option maxRecDepth 100000
set_option maxHeartbeats 4000000
namespace Np
open PySem PySem.Spec PyProof.Rows L2
/-! ### lists of one kind -/
def ints? : List DD → Option (List Int)
  | [] => some []
  | .int i :: ds => (ints? ds).map (i :: ·)
  | _ => none
def strs? : List DD → Option (List Str)
  | [] => some []
  | .str i :: ds => (strs? ds).map (i :: ·)
  | _ => none
def bls? : List DD → Option (List Bool)
  | [] => some []
  | .bl i :: ds => (bls? ds).map (i :: ·)
  | _ => none
@[simp] theorem ints?_map : ∀ ns : List Int, ints? (ns.map DD.int) = some ns
  | [] => rfl
  | n :: ns => by show (ints? (ns.map DD.int)).map (n :: ·) = _; rw [ints?_map ns] <;> rfl
@[simp] theorem strs?_map : ∀ ns : List Str, strs? (ns.map DD.str) = some ns
  | [] => rfl
  | n :: ns => by show (strs? (ns.map DD.str)).map (n :: ·) = _; rw [strs?_map ns] <;> rfl
@[simp] theorem bls?_map : ∀ ns : List Bool, bls? (ns.map DD.bl) = some ns
  | [] => rfl
  | n :: ns => by show (bls? (ns.map DD.bl)).map (n :: ·) = _; rw [bls?_map ns] <;> rfl
theorem ints?_eq : ∀ {ds : List DD} {ns : List Int}, ints? ds = some ns → ds = ns.map DD.int
  | [], _, h => by cases h; rfl
  | d :: ds, ns, h => by
    cases d <;> first | (cases h; done) | skip
    obtain ⟨ms, h1, h2⟩ := Option.map_eq_some_iff.mp h
    rw [ints?_eq h1, ← h2] <;> rfl
theorem strs?_eq : ∀ {ds : List DD} {ns : List Str}, strs? ds = some ns → ds = ns.map DD.str
  | [], _, h => by cases h; rfl
  | d :: ds, ns, h => by
    cases d <;> first | (cases h; done) | skip
    obtain ⟨ms, h1, h2⟩ := Option.map_eq_some_iff.mp h
    rw [strs?_eq h1, ← h2] <;> rfl
theorem bls?_eq : ∀ {ds : List DD} {ns : List Bool}, bls? ds = some ns → ds = ns.map DD.bl
  | [], _, h => by cases h; rfl
  | d :: ds, ns, h => by
    cases d <;> first | (cases h; done) | skip
    obtain ⟨ms, h1, h2⟩ := Option.map_eq_some_iff.mp h
    rw [bls?_eq h1, ← h2] <;> rfl
/-! ### arguments -/
def dNil : DA := fun _ τ => .ok [] τ
def dCons (a : DE) (r : DA) : DA := fun ρ τ => (a ρ τ).bind fun x τ1 => (r ρ τ1).bind fun xs τ2 => .ok (x :: xs) τ2
def dCall (g : List DD → Option DD) (a : DA) : DE := fun ρ τ => (a ρ τ).bind fun x τ1 => R.of τ1 (g x)
section
variable {W : Wp} {Wx : L2.St → XK} {ta tb tc : TE} {δa δb δc : DE} {tr : TA} {δr : DA}
theorem da_nil : DnA W Wx tNil dNil := fun tp G H σ ρ τ Q E P => P [] G H Ext.refl E .nil
theorem da_cons (ha : Dn W Wx ta δa) (hr : DnA W Wx tr δr) : DnA W Wx (tCons ta tr) (dCons δa δr) := fun tp G H σ ρ τ Q E P =>
  ha _ _ _ _ _ _ _ E (P.bind fun a τ1 x G1 H1 e1 E1 r1 P1 => hr _ _ _ _ _ _ _ E1 (P1.bind fun b τ2 y G2 H2 e2 E2 r2 P2 => P2 _ G2 H2 Ext.refl E2 (.cons (Rp.mono e2.g r1) r2)))
theorem dn_cb {r : List V → Hp → VK → Prop} {g : List DD → Option DD} (hc : CallD W r g) (hr : DnA W Wx tr δr) : Dn W Wx (tCB r tr) (dCall g δr) := fun tp G H σ ρ τ Q E P =>
  hr _ _ _ _ _ _ _ E (P.bind fun a τ1 x G1 H1 e1 E1 r1 P1 => by
    obtain ⟨c, hc', P3⟩ := P1.of
    exact hc G1 H1 x a c Q E1.g r1 hc' fun v G3 H3 e3 g3 r3 => P3 v G3 H3 e3.weak (E1.grow e3 g3) r3)
/-! displays -/
def dLst (a : DA) : DE := fun ρ τ => (a ρ τ).bind fun x τ1 => if x.length ≤ sizeLine then .ok (.lst x) τ1 else .no
def dTup (a : DA) : DE := fun ρ τ => (a ρ τ).bind fun x τ1 => if x.length ≤ sizeLine then .ok (.tup x) τ1 else .no
theorem rp_newL {G : Hp} {p : Addr} {vs : List V} {ds : List DD} (n : G p = none) (r : RpA W.K W.cm G vs ds) : Rp W.K W.cm (upd G p (.lst vs)) (.ref p) (.lst ds) := .lst upd_same (r.mono (same_new n))
theorem rp_newT {G : Hp} {p : Addr} {vs : List V} {ds : List DD} (n : G p = none) (r : RpA W.K W.cm G vs ds) : Rp W.K W.cm (upd G p (.tup vs)) (.ref p) (.tup ds) := .tup upd_same (r.mono (same_new n))
theorem dn_lst (hr : DnA W Wx tr δr) : Dn W Wx (tLst tr) (dLst δr) := fun tp G H σ ρ τ Q E P =>
  hr _ _ _ _ _ _ _ E (P.bind fun a τ1 x G1 H1 e1 E1 r1 P1 => by
    by_cases h : a.length ≤ sizeLine
    · rw [if_pos h] at P1
      exact ⟨by rw [r1.length]; exact h, fun p n => P1 _ _ _ (Ext.new n E1.g) (E1.new n) (rp_newL (E1.g.free n) r1)⟩
    · rw [if_neg h] at P1
      exact P1.elim)
theorem dn_tup (hr : DnA W Wx tr δr) : Dn W Wx (tTup tr) (dTup δr) := fun tp G H σ ρ τ Q E P =>
  hr _ _ _ _ _ _ _ E (P.bind fun a τ1 x G1 H1 e1 E1 r1 P1 => by
    by_cases h : a.length ≤ sizeLine
    · rw [if_pos h] at P1
      exact ⟨by rw [r1.length]; exact h, fun p n => P1 _ _ _ (Ext.new n E1.g) (E1.new n) (rp_newT (E1.g.free n) r1)⟩
    · rw [if_neg h] at P1
      exact P1.elim)
/-! tests -/
def dTest (a : DE) : DT := fun ρ τ => (a ρ τ).bind fun x τ1 => match x with
  | .bl b => .ok b τ1
  | _ => .no
theorem dt_test (ha : Dn W Wx ta δa) : DnT W Wx (tTest ta) (dTest δa) := fun tp G H σ ρ τ Q E P =>
  ha _ _ _ _ _ _ _ E (P.bind fun a τ1 x G1 H1 e1 E1 r1 P1 => by
    cases a <;> first | exact P1.elim | skip
    cases r1
    exact ⟨_, rfl, P1 _ G1 H1 Ext.refl E1 rfl⟩)
theorem dt_b (ha : Dn W Wx ta δa) : DnT W Wx (tB ta) (dTest δa) := dt_test ha
/-- the truth of a datum -/
def tru : DD → Option Bool
  | .non => some false
  | .bl b => some b
  | .int i => some (i != 0)
  | .str x => if x.length ≤ sizeLine then some ((x.length : Int) != 0) else none
  | .lst xs => some (!xs.isEmpty)
  | .tup xs => some (!xs.isEmpty)
  | .dic xs => some (!xs.isEmpty)
  | .obj _ _ => none
  | .exc _ _ => none
  | .raw _ => none
def dTru (a : DE) : DT := fun ρ τ => (a ρ τ).bind fun x τ1 => R.of τ1 (tru x)
theorem RpA.isEmpty {K : PySem.W.Frag} {cm : CM} {H : Hp} {vs : List V} {ds : List DD} (r : RpA K cm H vs ds) : vs.isEmpty = ds.isEmpty := by cases r <;> rfl
theorem RpK.isEmpty {K : PySem.W.Frag} {cm : CM} {H : Hp} {vs : List (Key × V)} {ds : List (Key × DD)} (r : RpK K cm H vs ds) : vs.isEmpty = ds.isEmpty := by cases r <;> rfl
theorem dt_tru (ha : Dn W Wx ta δa) : DnT W Wx (fun σ H Q => ta σ H fun x H' => ∃ k, TruV W.K x H' k ∧ Q k H') (dTru δa) := fun tp G H σ ρ τ Q E P =>
  ha _ _ _ _ _ _ _ E (P.bind fun a τ1 x G1 H1 e1 E1 r1 P1 => by
    obtain ⟨b, hb, P2⟩ := P1.of
    refine ⟨b, ?_, P2 b G1 H1 Ext.refl E1 rfl⟩
    cases r1 with
    | non => cases hb; rfl
    | bl b => cases hb; rfl
    | int i => cases hb; rfl
    | str i =>
      have hb : (if i.length ≤ sizeLine then some ((i.length : Int) != 0) else none) = some b := hb
      split at hb
      · rename_i h; cases hb; exact ⟨h, rfl⟩
      · cases hb
    | lst h r => cases hb; exact .inl ⟨_, .inl (.inl (E1.g _ _ h)), by rw [r.isEmpty]⟩
    | tup h r => cases hb; exact .inr (.inl ⟨_, SqT.of (E1.g _ _ h), by rw [r.isEmpty]⟩)
    | dic h r => cases hb; exact .inr (.inr ⟨_, E1.g _ _ h, by rw [r.isEmpty]⟩)
    | obj h r => cases hb
    | exc h z q b r => cases hb
    | raw a => cases hb)
variable {tA tB' : TT} {δA δB : DT}
def dAnd (a b : DT) : DT := fun ρ τ => (a ρ τ).bind fun x τ1 => if x = true then b ρ τ1 else .ok false τ1
def dOr (a b : DT) : DT := fun ρ τ => (a ρ τ).bind fun x τ1 => if x = true then .ok true τ1 else b ρ τ1
def dNot (a : DT) : DT := fun ρ τ => (a ρ τ).bind fun x τ1 => .ok (!x) τ1
theorem dt_and (ha : DnT W Wx tA δA) (hb : DnT W Wx tB' δB) : DnT W Wx (tAnd tA tB') (dAnd δA δB) := fun tp G H σ ρ τ Q E P =>
  ha _ _ _ _ _ _ _ E (P.bind fun a τ1 x G1 H1 e1 E1 r1 P1 => by
    cases r1
    cases a with
    | true => exact iteT (hb _ _ _ _ _ _ _ E1 P1)
    | false => exact iteF (P1 _ G1 H1 Ext.refl E1 rfl))
theorem dt_or (ha : DnT W Wx tA δA) (hb : DnT W Wx tB' δB) : DnT W Wx (tOr tA tB') (dOr δA δB) := fun tp G H σ ρ τ Q E P =>
  ha _ _ _ _ _ _ _ E (P.bind fun a τ1 x G1 H1 e1 E1 r1 P1 => by
    cases r1
    cases a with
    | true => exact iteT (P1 _ G1 H1 Ext.refl E1 rfl)
    | false => exact iteF (hb _ _ _ _ _ _ _ E1 P1))
theorem dt_not (ha : DnT W Wx tA δA) : DnT W Wx (tNot tA) (dNot δA) := fun tp G H σ ρ τ Q E P =>
  ha _ _ _ _ _ _ _ E (P.bind fun a τ1 x G1 H1 e1 E1 r1 P1 => by
    cases r1
    exact P1 _ G1 H1 Ext.refl E1 rfl)
def dIf (a : DT) (b c : DE) : DE := fun ρ τ => (a ρ τ).bind fun x τ1 => if x = true then b ρ τ1 else c ρ τ1
theorem dn_if (h : DnT W Wx tA δA) (ha : Dn W Wx ta δa) (hb : Dn W Wx tb δb) : Dn W Wx (tIf tA ta tb) (dIf δA δa δb) := fun tp G H σ ρ τ Q E P =>
  h _ _ _ _ _ _ _ E (P.bind fun a τ1 x G1 H1 e1 E1 r1 P1 => by
    cases r1
    cases a with
    | true => exact iteT (ha _ _ _ _ _ _ _ E1 P1)
    | false => exact iteF (hb _ _ _ _ _ _ _ E1 P1))
/-- and, or, not of truths, as values -/
def dAndV (a b : DE) : DE := fun ρ τ => (a ρ τ).bind fun x τ1 => match x with
  | .bl true => b ρ τ1
  | .bl false => .ok (.bl false) τ1
  | _ => .no
def dOrV (a b : DE) : DE := fun ρ τ => (a ρ τ).bind fun x τ1 => match x with
  | .bl true => .ok (.bl true) τ1
  | .bl false => b ρ τ1
  | _ => .no
def dNotV (a : DE) : DE := fun ρ τ => (a ρ τ).bind fun x τ1 => match x with
  | .bl b => .ok (.bl (!b)) τ1
  | _ => .no
theorem dn_and (ha : Dn W Wx ta δa) (hb : Dn W Wx tb δb) : Dn W Wx (tAndV ta tb) (dAndV δa δb) := fun tp G H σ ρ τ Q E P =>
  ha _ _ _ _ _ _ _ E (P.bind fun a τ1 x G1 H1 e1 E1 r1 P1 => by
    cases a <;> first | exact P1.elim | skip
    cases r1
    rename_i b
    cases b with
    | true => exact ⟨_, rfl, iteT (hb _ _ _ _ _ _ _ E1 P1)⟩
    | false => exact ⟨_, rfl, iteF (P1 _ G1 H1 Ext.refl E1 (.bl _))⟩)
theorem dn_or (ha : Dn W Wx ta δa) (hb : Dn W Wx tb δb) : Dn W Wx (tOrV ta tb) (dOrV δa δb) := fun tp G H σ ρ τ Q E P =>
  ha _ _ _ _ _ _ _ E (P.bind fun a τ1 x G1 H1 e1 E1 r1 P1 => by
    cases a <;> first | exact P1.elim | skip
    cases r1
    rename_i b
    cases b with
    | true => exact ⟨_, rfl, iteT (P1 _ G1 H1 Ext.refl E1 (.bl _))⟩
    | false => exact ⟨_, rfl, iteF (hb _ _ _ _ _ _ _ E1 P1)⟩)
theorem dn_not (ha : Dn W Wx ta δa) : Dn W Wx (tNotV ta) (dNotV δa) := fun tp G H σ ρ τ Q E P =>
  ha _ _ _ _ _ _ _ E (P.bind fun a τ1 x G1 H1 e1 E1 r1 P1 => by
    cases a <;> first | exact P1.elim | skip
    cases r1
    exact ⟨_, rfl, P1 _ G1 H1 Ext.refl E1 (.bl _)⟩)
/-- a op b op c -/
def dChain (g g' : DD → DD → Option DD) (a b c : DE) : DE := fun ρ τ => (a ρ τ).bind fun x τ1 => (b ρ τ1).bind fun y τ2 => (R.of τ2 (g x y)).bind fun z τ3 => match z with
  | .bl true => (c ρ τ3).bind fun w τ4 => R.of τ4 (g' y w)
  | .bl false => .ok (.bl false) τ3
  | _ => .no
theorem dn_chain {r r' : R2} {g g' : DD → DD → Option DD} (ho : OpD W r g) (ho' : OpD W r' g') (ha : Dn W Wx ta δa) (hb : Dn W Wx tb δb) (hc : Dn W Wx tc δc) : Dn W Wx (tChain r r' ta tb tc) (dChain g g' δa δb δc) := fun tp G H σ ρ τ Q E P =>
  ha _ _ _ _ _ _ _ E (P.bind fun a τ1 x G1 H1 e1 E1 r1 P1 => hb _ _ _ _ _ _ _ E1 (P1.bind fun b τ2 y G2 H2 e2 E2 r2 P2 => by
    cases hg : g a b with
    | none => rw [hg] at P2; exact P2.elim
    | some z =>
      rw [hg] at P2
      refine ho G2 H2 x y a b z _ E2.g (Rp.mono e2.g r1) r2 hg fun v G3 H3 e3 g3 r3 => ?_
      have P3 := Pg.shift P2 e3.weak
      have E3 := E2.grow e3 g3
      cases z <;> first | exact P3.elim | skip
      cases r3
      rename_i k
      cases k with
      | false => exact ⟨_, rfl, iteF (P3 _ G3 H3 Ext.refl E3 (.bl _))⟩
      | true => exact ⟨_, rfl, iteT (hc _ _ _ _ _ _ _ E3 (Pg.bind P3 fun w τ4 u G4 H4 e4 E4 r4 P4 => by
          obtain ⟨d, hd, P5⟩ := P4.of
          exact ho' G4 H4 y u b w d Q E4.g (Rp.mono (e3.g.trans e4.g) r2) r4 hd fun v G5 H5 e5 g5 r5 => P5 v G5 H5 e5.weak (E4.grow e5 g5) r5))⟩))
end
end Np

set_option Elab.async false
set_option linter.all false
set_option maxRecDepth 100000
set_option maxHeartbeats 4000000
namespace Np
open PySem PySem.Spec PyProof.Rows L2
section
variable {W : Wp} {Wx : L2.St → XK} {ta tb tc : TE} {δa δb δc : DE} {tr : TA} {δr : DA}
/-! ### sequences -/
theorem RpA.atI {K : PySem.W.Frag} {cm : CM} {H : Hp} {vs : List V} {ds : List DD} {i : Int} {d : DD} (r : RpA K cm H vs ds) (h : L2.atI ds i = some d) : ∃ v, L2.atI vs i = some v ∧ Rp K cm H v d := by
  unfold L2.atI at h ⊢
  rw [r.length]
  obtain ⟨j, h1, h2⟩ := Option.bind_eq_some_iff.mp h
  obtain ⟨v, e, rv⟩ := r.get h2
  exact ⟨v, by rw [h1]; exact e, rv⟩
def gIxL : DD → DD → Option DD
  | .lst ds, .int i => atI ds i
  | _, _ => none
def gIxT : DD → DD → Option DD
  | .tup ds, .int i => atI ds i
  | _, _ => none
def gIxS : DD → DD → Option DD
  | .str z, .int i => if z.length ≤ sizeLine then (atI z.cps.toList i).map fun c => .str ⟨#[c]⟩ else none
  | _, _ => none
theorem od_ixL : OpD W (rIxL W.K) gIxL := by
  intro G H x y a b c Q s ra rb e k
  cases a <;> cases b <;> first | (cases e; done) | skip
  cases ra with
  | lst h r =>
    obtain ⟨v, e1, rv⟩ := r.atI (show L2.atI _ _ = some c from e)
    exact ⟨_, _, _, v, rfl, rb.int_of, SqL.of (s _ _ h), e1, k _ G H ext_n s rv⟩
theorem od_ixT : OpD W (rIxT W.K) gIxT := by
  intro G H x y a b c Q s ra rb e k
  cases a <;> cases b <;> first | (cases e; done) | skip
  cases ra with
  | tup h r =>
    obtain ⟨v, e1, rv⟩ := r.atI (show L2.atI _ _ = some c from e)
    exact ⟨_, _, _, v, rfl, rb.int_of, SqT.of (s _ _ h), e1, k _ G H ext_n s rv⟩
theorem od_ixS : OpD W rIxS gIxS := by
  intro G H x y a b c Q s ra rb e k
  cases a <;> cases b <;> first | (cases e; done) | skip
  rename_i z i
  have e : (if z.length ≤ sizeLine then (L2.atI z.cps.toList i).map fun c => DD.str ⟨#[c]⟩ else none) = some c := e
  split at e
  · rename_i hz
    obtain ⟨n, h1, h2⟩ := Option.map_eq_some_iff.mp e
    cases h2
    exact ⟨z, i, n, ra.str_of, rb.int_of, hz, h1, k _ G H ext_n s (.str _)⟩
  · cases e
/-! slices -/
abbrev DO := PEnv → TS' → R (Option Int)
abbrev rO : Option Addr → Hp → Option Int → Option Int → Prop := fun _ _ b c => b = c
abbrev DnO (W : Wp) (Wx : L2.St → XK) (t : TO) (δ : DO) : Prop := DnG W Wx rO t δ
def dNoP : DO := fun _ τ => .ok none τ
def dPart (a : DE) : DO := fun ρ τ => (a ρ τ).bind fun x τ1 => match x with
  | .int i => .ok (some i) τ1
  | _ => .no
theorem do_none : DnO W Wx tNoPart dNoP := fun tp G H σ ρ τ Q E P => P none G H Ext.refl E rfl
theorem do_some (ha : Dn W Wx ta δa) : DnO W Wx (tPart ta) (dPart δa) := fun tp G H σ ρ τ Q E P =>
  ha _ _ _ _ _ _ _ E (P.bind fun a τ1 x G1 H1 e1 E1 r1 P1 => by
    cases a <;> first | exact P1.elim | skip
    cases r1
    exact ⟨_, rfl, P1 _ G1 H1 Ext.refl E1 rfl⟩)
def SlD (W : Wp) (r : V → Option Int → Option Int → Hp → VK → Prop) (g : DD → Option Int → Option Int → Option DD) : Prop := ∀ (G H : Hp) (x : V) (a c : DD) (lo hi : Option Int) (Q : VK), Same G H → Rp W.K W.cm G x a → g a lo hi = some c →
  (∀ v G' H', Ext none G H G' H' → Same G' H' → Rp W.K W.cm G' v c → Q v H') → r x lo hi H Q
def dSl (g : DD → Option Int → Option Int → Option DD) (a : DE) (l h : DO) : DE := fun ρ τ => (a ρ τ).bind fun x τ1 => (l ρ τ1).bind fun lo τ2 => (h ρ τ2).bind fun hi τ3 => R.of τ3 (g x lo hi)
theorem dn_slice {tl th : TO} {δl δh : DO} {r : V → Option Int → Option Int → Hp → VK → Prop} {g : DD → Option Int → Option Int → Option DD} (hs : SlD W r g) (ha : Dn W Wx ta δa) (hl : DnO W Wx tl δl) (hh : DnO W Wx th δh) : Dn W Wx (tSl r ta tl th) (dSl g δa δl δh) := fun tp G H σ ρ τ Q E P =>
  ha _ _ _ _ _ _ _ E (P.bind fun a τ1 x G1 H1 e1 E1 r1 P1 => hl _ _ _ _ _ _ _ E1 (P1.bind fun lo τ2 y G2 H2 e2 E2 r2 P2 => hh _ _ _ _ _ _ _ E2 (P2.bind fun hi τ3 z G3 H3 e3 E3 r3 P3 => by
    cases r2
    cases r3
    obtain ⟨c, hc, P4⟩ := P3.of
    exact hs G3 H3 x a c lo hi Q E3.g (Rp.mono (e2.g.trans e3.g) r1) hc fun v G4 H4 e4 g4 r4 => P4 v G4 H4 e4.weak (E3.grow e4 g4) r4)))
def cutL {α : Type} (xs : List α) (lo hi : Option Int) : List α := (xs.drop (HT.sIx xs.length 0 lo)).take (HT.sIx xs.length xs.length hi - HT.sIx xs.length 0 lo)
theorem RpA.cut {K : PySem.W.Frag} {cm : CM} {H : Hp} {vs : List V} {ds : List DD} (r : RpA K cm H vs ds) (lo hi : Option Int) : RpA K cm H (cutV vs lo hi) (cutL ds lo hi) := by
  unfold cutV cutL
  rw [r.length]
  exact (r.drop _).take _
def gSlL : DD → Option Int → Option Int → Option DD
  | .lst ds, lo, hi => some (.lst (cutL ds lo hi))
  | _, _, _ => none
def gSlS : DD → Option Int → Option Int → Option DD
  | .str z, lo, hi => if z.length ≤ sizeLine then some (.str (cutS z lo hi)) else none
  | _, _, _ => none
theorem sd_list : SlD W (rSlL W.K) gSlL := by
  intro G H x a c lo hi Q s ra e k
  cases a <;> first | (cases e; done) | skip
  cases ra with
  | lst h r =>
    cases e
    exact ⟨_, _, rfl, SqL.of (s _ _ h), fun p n => k _ _ _ (Ext.new n s) (same_both s) (rp_newL (s.free n) (r.cut lo hi))⟩
theorem sd_str : SlD W rSlS gSlS := by
  intro G H x a c lo hi Q s ra e k
  cases a <;> first | (cases e; done) | skip
  rename_i z
  have e : (if z.length ≤ sizeLine then some (DD.str (cutS z lo hi)) else none) = some c := e
  split at e
  · rename_i hz
    cases e
    exact ⟨z, ra.str_of, hz, k _ G H ext_n s (.str _)⟩
  · cases e
/-! reversed ones -/
def gRevL : DD → Option DD
  | .lst ds => some (.lst ds.reverse)
  | _ => none
def gRevS : DD → Option DD
  | .str z => if z.length ≤ sizeLine then some (.str (revS z)) else none
  | _ => none
theorem dn_revL (ha : Dn W Wx ta δa) : Dn W Wx (tRevL W.K ta) (dUn gRevL δa) := fun tp G H σ ρ τ Q E P =>
  ha _ _ _ _ _ _ _ E (P.bind fun a τ1 x G1 H1 e1 E1 r1 P1 => by
    obtain ⟨c, hc, P2⟩ := P1.of
    cases r1 <;> first | (cases hc; done) | skip
    rename_i h r
    cases hc
    exact ⟨_, _, rfl, SqL.of (E1.g _ _ h), fun p n => P2 _ _ _ (Ext.new n E1.g) (E1.new n) (rp_newL (E1.g.free n) r.reverse)⟩)
theorem dn_revS (ha : Dn W Wx ta δa) : Dn W Wx (tRevS ta) (dUn gRevS δa) := fun tp G H σ ρ τ Q E P =>
  ha _ _ _ _ _ _ _ E (P.bind fun a τ1 x G1 H1 e1 E1 r1 P1 => by
    obtain ⟨c, hc, P2⟩ := P1.of
    cases r1 <;> first | (cases hc; done) | skip
    rename_i z
    have e : (if z.length ≤ sizeLine then some (DD.str (revS z)) else none) = some c := hc
    split at e
    · rename_i hz
      cases e
      exact ⟨z, rfl, hz, P2 _ _ _ Ext.refl E1 (.str _)⟩
    · cases e)
/-! + and * of lists -/
def gCat : DD → DD → Option DD
  | .lst a, .lst b => if a.length + b.length ≤ sizeLine then some (.lst (a ++ b)) else none
  | _, _ => none
theorem od_cat : OpD W rCat gCat := by
  intro G H x y a b c Q s ra rb e k
  cases ra <;> first | (cases e; done) | skip
  cases rb <;> first | (cases e; done) | skip
  rename_i p xs ds h r q ys es h' r'
  have e : (if ds.length + es.length ≤ sizeLine then some (DD.lst (ds ++ es)) else none) = some c := e
  split at e
  · rename_i hz
    cases e
    exact ⟨p, q, xs, ys, rfl, rfl, s _ _ h, s _ _ h', by rw [r.length, r'.length]; exact hz, fun p n => k _ _ _ (Ext.new n s) (same_both s) (rp_newL (s.free n) (r.append r'))⟩
  · cases e
def gCatT : DD → DD → Option DD
  | .tup a, .tup b => if a.length + b.length ≤ sizeLine then some (.tup (a ++ b)) else none
  | _, _ => none
theorem op_catAK {X : Cx} (K : PySem.W.Frag) (h : X.K = K := by rfl) : OpR X (binaryOp .Add) (rCatA K) := by subst h; exact op_catA
theorem od_catA : OpD W (rCatA W.K) gCatT := by
  intro G H x y a b c Q s ra rb e k
  cases ra <;> first | (cases e; done) | skip
  cases rb <;> first | (cases e; done) | skip
  rename_i p xs ds h r q ys es h' r'
  have e : (if ds.length + es.length ≤ sizeLine then some (DD.tup (ds ++ es)) else none) = some c := e
  split at e
  · rename_i hz
    cases e
    refine ⟨p, q, xs, ys, rfl, rfl, SqT.of (s _ _ h), SqT.of (s _ _ h'), by rw [r.length, r'.length]; exact hz, fun z => ?_, fun _ z => ?_, fun _ _ p n => k _ _ _ (Ext.new n s) (same_both s) (rp_newT (s.free n) (r.append r'))⟩
    · subst z
      cases r
      exact k _ G H ext_n s (.tup h' r')
    · subst z
      cases r'
      rw [List.append_nil] at k
      exact k _ G H ext_n s (.tup h r)
  · cases e
def gRep : DD → DD → Option DD
  | .lst a, .int k => if -(2 ^ 63) ≤ k ∧ k < 2 ^ 63 ∧ a.length * k.toNat ≤ sizeLine then some (.lst (List.replicate k.toNat a).flatten) else none
  | _, _ => none
theorem RpA.rep {K : PySem.W.Frag} {cm : CM} {H : Hp} {vs : List V} {ds : List DD} (r : RpA K cm H vs ds) : ∀ n, RpA K cm H (List.replicate n vs).flatten (List.replicate n ds).flatten
  | 0 => .nil
  | n + 1 => by
    rw [List.replicate_succ, List.flatten_cons, List.replicate_succ, List.flatten_cons]
    exact r.append (r.rep n)
theorem od_rep : OpD W rRep gRep := by
  intro G H x y a b c Q s ra rb e k
  cases ra <;> first | (cases e; done) | skip
  cases rb <;> first | (cases e; done) | skip
  rename_i p xs ds h r n
  have e : (if -(2 ^ 63) ≤ n ∧ n < 2 ^ 63 ∧ ds.length * n.toNat ≤ sizeLine then some (DD.lst (List.replicate n.toNat ds).flatten) else none) = some c := e
  split at e
  · rename_i hz
    cases e
    exact ⟨p, n, xs, rfl, rfl, s _ _ h, hz.1, hz.2.1, by rw [r.length]; exact hz.2.2, fun p q => k _ _ _ (Ext.new q s) (same_both s) (rp_newL (s.free q) (r.rep _))⟩
  · cases e
/-! ### x in a list, a tuple, flat ones -/
def flat? : DD → Option V
  | .non => some .non
  | .bl b => some (.bl b)
  | .int b => some (.int b)
  | .str b => some (.str b)
  | _ => none
def flats? : List DD → Option (List V)
  | [] => some []
  | d :: ds => match flat? d, flats? ds with
    | some v, some vs => some (v :: vs)
    | _, _ => none
theorem flat?_eq {K : PySem.W.Frag} {cm : CM} {H : Hp} {v u : V} {d : DD} (r : Rp K cm H v d) (h : flat? d = some u) : v = u ∧ flatV v = true := by
  cases r <;> first | (cases h; done) | (cases h; exact ⟨rfl, rfl⟩)
theorem flats?_eq {K : PySem.W.Frag} {cm : CM} {H : Hp} : ∀ {v u : List V} {d : List DD}, RpA K cm H v d → flats? d = some u → v = u ∧ v.all flatV = true
  | _, _, _, .nil, h => by cases h; exact ⟨rfl, rfl⟩
  | _, _, _, .cons r rs, h => by
    unfold flats? at h
    split at h
    · rename_i v vs h1 h2
      cases h
      obtain ⟨rfl, e1⟩ := flat?_eq r h1
      obtain ⟨rfl, e2⟩ := flats?_eq rs h2
      exact ⟨rfl, by rw [List.all_cons, e1, e2]; rfl⟩
    · cases h
@[simp] theorem flats?_strs : ∀ ns : List Str, flats? (ns.map DD.str) = some (ns.map V.str)
  | [] => rfl
  | n :: ns => by rw [List.map_cons, flats?, flats?_strs ns]; rfl
@[simp] theorem flats?_ints : ∀ ns : List Int, flats? (ns.map DD.int) = some (ns.map V.int)
  | [] => rfl
  | n :: ns => by rw [List.map_cons, flats?, flats?_ints ns]; rfl
def items? : DD → Option (List DD)
  | .lst ds => some ds
  | .tup ds => some ds
  | _ => none
def gInF (neg : Bool) (a b : DD) : Option DD := match flat? a, (items? b).bind flats? with
  | some x, some xs => some (.bl (if neg then !inV x xs else inV x xs))
  | _, _ => none
theorem od_in_seq {neg : Bool} : OpD W (rIn W.K neg) (gInF neg) := by
  intro G H x y a b c Q s ra rb e k
  unfold gInF at e
  split at e
  · rename_i x' xs h1 h2
    cases e
    obtain ⟨rfl, f1⟩ := flat?_eq ra h1
    obtain ⟨ds, h3, h4⟩ := Option.bind_eq_some_iff.mp h2
    cases rb <;> first | (cases h3; done) | skip
    · rename_i h r
      cases h3
      obtain ⟨rfl, f2⟩ := flats?_eq r h4
      exact ⟨_, _, rfl, .inl (SqL.of (s _ _ h)), f1, f2, k _ G H ext_n s (.bl _)⟩
    · rename_i h r
      cases h3
      obtain ⟨rfl, f2⟩ := flats?_eq r h4
      exact ⟨_, _, rfl, .inr (SqT.of (s _ _ h)), f1, f2, k _ G H ext_n s (.bl _)⟩
  · cases e
theorem inV_strs (x : Str) (xs : List Str) : inV (.str x) (xs.map V.str) = decide (x ∈ xs) := by
  unfold inV
  rw [List.any_map]
  induction xs with
  | nil => rfl
  | cons y ys ih =>
    rw [List.any_cons, ih]
    show (y == x || _) = _
    by_cases h : x = y
    · subst h; simp
    · have h2 : (y == x) = false := beq_eq_false_iff_ne.mpr fun z => h z.symm
      rw [h2, Bool.false_or]
      by_cases h3 : x ∈ ys
      · rw [decide_eq_true h3, decide_eq_true (List.mem_cons_of_mem _ h3)]
      · rw [decide_eq_false h3, decide_eq_false fun z => (List.mem_cons.mp z).elim h h3]
theorem inV_ints (x : Int) (xs : List Int) : inV (.int x) (xs.map V.int) = decide (x ∈ xs) := by
  unfold inV
  rw [List.any_map]
  induction xs with
  | nil => rfl
  | cons y ys ih =>
    rw [List.any_cons, ih]
    show (y == x || _) = _
    by_cases h : x = y
    · subst h; simp
    · have h2 : (y == x) = false := beq_eq_false_iff_ne.mpr fun z => h z.symm
      rw [h2, Bool.false_or]
      by_cases h3 : x ∈ ys
      · rw [decide_eq_true h3, decide_eq_true (List.mem_cons_of_mem _ h3)]
      · rw [decide_eq_false h3, decide_eq_false fun z => (List.mem_cons.mp z).elim h h3]
end
end Np

set_option Elab.async false
set_option linter.all false
set_option maxRecDepth 100000
set_option maxHeartbeats 4000000
namespace Np
open PySem PySem.Spec PyProof.Rows L2
/-! ### deep == -/
mutual
def toPy : DD → Option PyData
  | .non => some .none
  | .bl b => some (.bool b)
  | .int i => some (.int i)
  | .str x => some (.str x)
  | .lst ds => (toPys ds).map .list
  | .tup ds => (toPys ds).map .tuple
  | _ => none
def toPys : List DD → Option (List PyData)
  | [] => some []
  | d :: ds => match toPy d, toPys ds with
    | some p, some ps => some (p :: ps)
    | _, _ => none
end
section
variable {W : Wp} {Wx : L2.St → XK} {ta tb tc : TE} {δa δb δc : DE} {tr : TA} {δr : DA}
mutual
theorem Rp.dp {K : PySem.W.Frag} {cm : CM} {H : Hp} : ∀ {v : V} {d : DD} {p : PyData}, Rp K cm H v d → toPy d = some p → Dp K H v p
  | _, _, _, .non, h => by rw [toPy] at h; cases h; exact .non
  | _, _, _, .bl b, h => by rw [toPy] at h; cases h; exact .bl b
  | _, _, _, .int b, h => by rw [toPy] at h; cases h; exact .int b
  | _, _, _, .str b, h => by rw [toPy] at h; cases h; exact .str b
  | _, _, _, .lst a r, h => by
    rw [toPy] at h
    obtain ⟨ps, h1, h2⟩ := Option.map_eq_some_iff.mp h
    cases h2
    exact .lst (SqL.of a) (RpA.dps r h1)
  | _, _, _, .tup a r, h => by
    rw [toPy] at h
    obtain ⟨ps, h1, h2⟩ := Option.map_eq_some_iff.mp h
    cases h2
    exact .tup (SqT.of a) (RpA.dps r h1)
  | _, _, _, .dic a r, h => by rw [toPy] at h <;> first | (cases h; done) | (intros; contradiction)
  | _, _, _, .obj a r, h => by rw [toPy] at h <;> first | (cases h; done) | (intros; contradiction)
  | _, _, _, .exc a z q b r, h => by rw [toPy] at h <;> first | (cases h; done) | (intros; contradiction)
theorem RpA.dps {K : PySem.W.Frag} {cm : CM} {H : Hp} : ∀ {v : List V} {d : List DD} {p : List PyData}, RpA K cm H v d → toPys d = some p → DpAll K H v p
  | _, _, _, .nil, h => by rw [toPys] at h; cases h; exact .nil
  | _, _, _, .cons r rs, h => by
    rw [toPys] at h
    split at h
    · rename_i p ps h1 h2
      cases h
      exact .cons (Rp.dp r h1) (RpA.dps rs h2)
    · cases h
end
def py2 (g : PyData → PyData → Option DD) (a b : DD) : Option DD := match toPy a, toPy b with
  | some p, some q => if SeqAt.shaped p = true ∧ SeqAt.shaped q = true then g p q else none
  | _, _ => none
abbrev gEqD := py2 fun p q => some (.bl (PyData.eqv p q))
abbrev gNeD := py2 fun p q => some (.bl (!PyData.eqv p q))
theorem py2_eq {g : PyData → PyData → Option DD} {a b c : DD} (h : py2 g a b = some c) : ∃ p q, toPy a = some p ∧ toPy b = some q ∧ SeqAt.shaped p = true ∧ SeqAt.shaped q = true ∧ g p q = some c := by
  unfold py2 at h
  split at h
  · rename_i p q h1 h2
    split at h
    · rename_i h3
      exact ⟨p, q, h1, h2, h3.1, h3.2, h⟩
    · cases h
  · cases h
theorem od_eqD : OpD W (rEqD W.K) gEqD := by
  intro G H x y a b c Q s ra rb e k
  obtain ⟨p, q, h1, h2, h3, h4, h5⟩ := py2_eq e
  cases h5
  exact ⟨p, q, (ra.mono s).dp h1, (rb.mono s).dp h2, h3, h4, k _ G H ext_n s (.bl _)⟩
theorem od_neD : OpD W (rNeD W.K) gNeD := by
  intro G H x y a b c Q s ra rb e k
  obtain ⟨p, q, h1, h2, h3, h4, h5⟩ := py2_eq e
  cases h5
  exact ⟨p, q, (ra.mono s).dp h1, (rb.mono s).dp h2, h3, h4, k _ G H ext_n s (.bl _)⟩
abbrev gInD := py2 fun p q => match q with
  | .list ds => some (.bl (ds.any fun z => PyData.eqv z p))
  | _ => none
abbrev gNotInD := py2 fun p q => match q with
  | .list ds => some (.bl (!ds.any fun z => PyData.eqv z p))
  | _ => none
theorem od_inD : OpD W (rInD W.K) gInD := by
  intro G H x y a b c Q s ra rb e k
  obtain ⟨p, q, h1, h2, h3, h4, h5⟩ := py2_eq e
  cases q <;> first | (cases h5; done) | skip
  cases h5
  exact ⟨p, _, (ra.mono s).dp h1, (rb.mono s).dp h2, h3, h4, k _ G H ext_n s (.bl _)⟩
theorem od_notInD : OpD W (rNotInD W.K) gNotInD := by
  intro G H x y a b c Q s ra rb e k
  obtain ⟨p, q, h1, h2, h3, h4, h5⟩ := py2_eq e
  cases q <;> first | (cases h5; done) | skip
  cases h5
  exact ⟨p, _, (ra.mono s).dp h1, (rb.mono s).dp h2, h3, h4, k _ G H ext_n s (.bl _)⟩
/-! ### built-in calls -/
def c1 (g : DD → Option DD) : List DD → Option DD
  | [d] => g d
  | _ => none
def c2 (g : DD → DD → Option DD) : List DD → Option DD
  | [d, e] => g d e
  | _ => none
theorem c1_eq {g : DD → Option DD} {ds : List DD} {c : DD} (h : c1 g ds = some c) : ∃ d, ds = [d] ∧ g d = some c := by
  unfold c1 at h
  split at h
  · exact ⟨_, rfl, h⟩
  · cases h
theorem c2_eq {g : DD → DD → Option DD} {ds : List DD} {c : DD} (h : c2 g ds = some c) : ∃ d e, ds = [d, e] ∧ g d e = some c := by
  unfold c2 at h
  split at h
  · exact ⟨_, _, rfl, h⟩
  · cases h
def gLenS : DD → Option DD
  | .str z => if z.length ≤ sizeLine then some (.int z.length) else none
  | _ => none
def gLenL (d : DD) : Option DD := (items? d).map fun ds => .int ds.length
theorem cd_lenS : CallD W (fun xs H Q => ∃ z, xs = [.str z] ∧ z.length ≤ sizeLine ∧ Q (.int z.length) H) (c1 gLenS) := by
  intro G H x a c Q s ra e k
  replace e := c1_eq e
  obtain ⟨d, rfl, e⟩ := e
  cases ra with | cons r rs =>
  cases rs
  cases d <;> first | (cases e; done) | skip
  rename_i z
  have e : (if z.length ≤ sizeLine then some (DD.int z.length) else none) = some c := e
  split at e
  · rename_i hz
    cases e
    exact ⟨z, by rw [r.str_of], hz, k _ G H ext_n s (.int _)⟩
  · cases e
theorem cd_lenL : CallD W (rLenK W.K) (c1 gLenL) := by
  intro G H x a c Q s ra e k
  replace e := c1_eq e
  obtain ⟨d, rfl, e⟩ := e
  cases ra with | cons r rs =>
  cases rs
  obtain ⟨ds, h1, h2⟩ := Option.map_eq_some_iff.mp e
  cases h2
  cases r <;> first | (cases h1; done) | skip
  · rename_i h r
    cases h1
    exact ⟨_, _, rfl, .inl (SqL.of (s _ _ h)), k _ G H ext_n s (by rw [r.length]; exact .int _)⟩
  · rename_i h r
    cases h1
    exact ⟨_, _, rfl, .inr (SqT.of (s _ _ h)), k _ G H ext_n s (by rw [r.length]; exact .int _)⟩
def gAbs : DD → Option DD
  | .int i => some (.int (if i < 0 then -i else i))
  | _ => none
theorem cd_abs : CallD W (fun xs H Q => ∃ i, xs = [.int i] ∧ Q (.int (if i < 0 then -i else i)) H) (c1 gAbs) := by
  intro G H x a c Q s ra e k
  replace e := c1_eq e
  obtain ⟨d, rfl, e⟩ := e
  cases ra with | cons r rs =>
  cases rs
  cases d <;> first | (cases e; done) | skip
  cases e
  exact ⟨_, by rw [r.int_of], k _ G H ext_n s (.int _)⟩
abbrev gDivmod := oInt fun i j => if CDiv i j then some (.tup [.int (i / j), .int (i % j)]) else none
theorem cd_divmod : CallD W (fun xs H Q => ∃ i j, xs = [.int i, .int j] ∧ CDiv i j ∧ ∀ p, H p = none → Q (.ref p) (upd H p (.tup [.int (i / j), .int (i % j)]))) (c2 gDivmod) := by
  intro G H x a c Q s ra e k
  replace e := c2_eq e
  obtain ⟨d, d', rfl, e⟩ := e
  cases ra with | cons r rs =>
  cases rs with | cons r' rs =>
  cases rs
  cases d <;> cases d' <;> first | (cases e; done) | skip
  rename_i i j
  have e : (if CDiv i j then some (DD.tup [.int (i / j), .int (i % j)]) else none) = some c := e
  split at e
  · rename_i hz
    cases e
    exact ⟨i, j, by rw [r.int_of, r'.int_of], hz, fun p n => k _ _ _ (Ext.new n s) (same_both s) (rp_newT (s.free n) (.cons (.int _) (.cons (.int _) .nil)))⟩
  · cases e
abbrev gMax2 := oInt fun i j => some (.int (if j > i then j else i))
abbrev gMin2 := oInt fun i j => some (.int (if j < i then j else i))
theorem cd_max2 : CallD W (fun xs H Q => ∃ i j, xs = [.int i, .int j] ∧ Q (.int (if j > i then j else i)) H) (c2 gMax2) := by
  intro G H x a c Q s ra e k
  replace e := c2_eq e
  obtain ⟨d, d', rfl, e⟩ := e
  cases ra with | cons r rs =>
  cases rs with | cons r' rs =>
  cases rs
  cases d <;> cases d' <;> first | (cases e; done) | skip
  cases e
  exact ⟨_, _, by rw [r.int_of, r'.int_of], k _ G H ext_n s (.int _)⟩
theorem cd_min2 : CallD W (fun xs H Q => ∃ i j, xs = [.int i, .int j] ∧ Q (.int (if j < i then j else i)) H) (c2 gMin2) := by
  intro G H x a c Q s ra e k
  replace e := c2_eq e
  obtain ⟨d, d', rfl, e⟩ := e
  cases ra with | cons r rs =>
  cases rs with | cons r' rs =>
  cases rs
  cases d <;> cases d' <;> first | (cases e; done) | skip
  cases e
  exact ⟨_, _, by rw [r.int_of, r'.int_of], k _ G H ext_n s (.int _)⟩
def gStrI : DD → Option DD
  | .int i => if i.natAbs.log2 < 1920 then some (.str (toString i)) else none
  | _ => none
theorem cd_str_int : CallD W (fun xs H Q => ∃ i, xs = [.int i] ∧ i.natAbs.log2 < 1920 ∧ Q (.str (toString i)) H) (c1 gStrI) := by
  intro G H x a c Q s ra e k
  replace e := c1_eq e
  obtain ⟨d, rfl, e⟩ := e
  cases ra with | cons r rs =>
  cases rs
  cases d <;> first | (cases e; done) | skip
  rename_i i
  have e : (if i.natAbs.log2 < 1920 then some (DD.str (toString i)) else none) = some c := e
  split at e
  · rename_i hz
    cases e
    exact ⟨i, by rw [r.int_of], hz, k _ G H ext_n s (.str _)⟩
  · cases e
def gIntS : DD → Option DD
  | .str a => if a.length ≤ 640 then (PySem.intText? a).map .int else none
  | _ => none
theorem cd_int_str : CallD W (fun xs H Q => ∃ a n, xs = [.str a] ∧ PySem.intText? a = some n ∧ a.length ≤ 640 ∧ Q (.int n) H) (c1 gIntS) := by
  intro G H x a c Q s ra e k
  replace e := c1_eq e
  obtain ⟨d, rfl, e⟩ := e
  cases ra with | cons r rs =>
  cases rs
  cases d <;> first | (cases e; done) | skip
  rename_i z
  have e : (if z.length ≤ 640 then (PySem.intText? z).map DD.int else none) = some c := e
  split at e
  · rename_i hz
    obtain ⟨n, h1, h2⟩ := Option.map_eq_some_iff.mp e
    cases h2
    exact ⟨z, n, by rw [r.str_of], h1, hz, k _ G H ext_n s (.int _)⟩
  · cases e
def gInt1 : DD → Option DD
  | .int a => some (.int a)
  | .bl b => some (.int (if b then 1 else 0))
  | _ => none
theorem cd_int1 : CallD W (fun xs H Q => (∃ i, xs = [.int i] ∧ Q (.int i) H) ∨ ∃ k, xs = [.bl k] ∧ Q (.int (if k then 1 else 0)) H) (c1 gInt1) := by
  intro G H x a c Q s ra e k
  replace e := c1_eq e
  obtain ⟨d, rfl, e⟩ := e
  cases ra with | cons r rs =>
  cases rs
  cases d <;> first | (cases e; done) | skip
  · cases e
    exact .inr ⟨_, by rw [r.bl_of], k _ G H ext_n s (.int _)⟩
  · cases e
    exact .inl ⟨_, by rw [r.int_of], k _ G H ext_n s (.int _)⟩
def gOrd : DD → Option DD
  | .str x => if x.length = 1 then some (.int (x.cps.getD 0 0 : Nat)) else none
  | _ => none
theorem cd_ord : CallD W (fun xs H Q => ∃ x, xs = [.str x] ∧ x.length = 1 ∧ Q (.int (x.cps.getD 0 0 : Nat)) H) (c1 gOrd) := by
  intro G H x a c Q s ra e k
  replace e := c1_eq e
  obtain ⟨d, rfl, e⟩ := e
  cases ra with | cons r rs =>
  cases rs
  cases d <;> first | (cases e; done) | skip
  rename_i z
  have e : (if z.length = 1 then some (DD.int (z.cps.getD 0 0 : Nat)) else none) = some c := e
  split at e
  · rename_i hz
    cases e
    exact ⟨z, by rw [r.str_of], hz, k _ G H ext_n s (.int _)⟩
  · cases e
def gSum : DD → Option DD
  | .lst ds => (ints? ds).map fun ns => .int ns.sum
  | _ => none
theorem cd_sum : CallD W (rSum W.K) (c1 gSum) := by
  intro G H x a c Q s ra e k
  replace e := c1_eq e
  obtain ⟨d, rfl, e⟩ := e
  cases ra with | cons r rs =>
  cases rs
  cases r <;> first | (cases e; done) | skip
  rename_i h r
  obtain ⟨ns, h1, h2⟩ := Option.map_eq_some_iff.mp e
  cases h2
  cases ints?_eq h1
  exact ⟨_, ns, rfl, by rw [← r.ints_of]; exact SqL.of (s _ _ h), k _ G H ext_n s (.int _)⟩
def maxL : Int → List Int → Int
  | m, [] => m
  | m, n :: ns => maxL (max m n) ns
def minL : Int → List Int → Int
  | m, [] => m
  | m, n :: ns => minL (min m n) ns
theorem maxL_max : ∀ (m : Int) (ns : List Int), (maxL m ns = m ∨ maxL m ns ∈ ns) ∧ m ≤ maxL m ns ∧ ∀ y ∈ ns, y ≤ maxL m ns
  | m, [] => ⟨.inl rfl, Int.le_refl _, fun _ h => by cases h⟩
  | m, n :: ns => by
    obtain ⟨a, b, c⟩ := maxL_max (max m n) ns
    show (maxL (max m n) ns = m ∨ maxL (max m n) ns ∈ n :: ns) ∧ m ≤ maxL (max m n) ns ∧ ∀ y ∈ n :: ns, y ≤ maxL (max m n) ns
    refine ⟨?_, by omega, fun y hy => ?_⟩
    · rcases a with a | a
      · by_cases h : m ≤ n
        · right; rw [a, Int.max_eq_right h]; exact List.mem_cons_self
        · left; rw [a]; omega
      · exact .inr (List.mem_cons_of_mem _ a)
    · rcases List.mem_cons.mp hy with rfl | hy
      · omega
      · exact c y hy
theorem minL_min : ∀ (m : Int) (ns : List Int), (minL m ns = m ∨ minL m ns ∈ ns) ∧ minL m ns ≤ m ∧ ∀ y ∈ ns, minL m ns ≤ y
  | m, [] => ⟨.inl rfl, Int.le_refl _, fun _ h => by cases h⟩
  | m, n :: ns => by
    obtain ⟨a, b, c⟩ := minL_min (min m n) ns
    show (minL (min m n) ns = m ∨ minL (min m n) ns ∈ n :: ns) ∧ minL (min m n) ns ≤ m ∧ ∀ y ∈ n :: ns, minL (min m n) ns ≤ y
    refine ⟨?_, by omega, fun y hy => ?_⟩
    · rcases a with a | a
      · by_cases h : m ≤ n
        · left; rw [a]; omega
        · right; rw [a, Int.min_eq_right (by omega)]; exact List.mem_cons_self
      · exact .inr (List.mem_cons_of_mem _ a)
    · rcases List.mem_cons.mp hy with rfl | hy
      · omega
      · exact c y hy
def gMaxL : DD → Option DD
  | .lst ds => match ints? ds with
    | some (n :: ns) => some (.int (maxL n ns))
    | _ => none
  | _ => none
def gMinL : DD → Option DD
  | .lst ds => match ints? ds with
    | some (n :: ns) => some (.int (minL n ns))
    | _ => none
  | _ => none
theorem cd_maxL : CallD W (rMax W.K) (c1 gMaxL) := by
  intro G H x a c Q s ra e k
  replace e := c1_eq e
  obtain ⟨d, rfl, e⟩ := e
  cases ra with | cons r rs =>
  cases rs
  cases r <;> first | (cases e; done) | skip
  rename_i ds h r
  unfold gMaxL at e
  simp only at e
  split at e
  · rename_i n ns h1
    cases e
    cases ints?_eq h1
    refine ⟨_, n :: ns, rfl, by rw [← r.ints_of]; exact SqL.of (s _ _ h), Nat.succ_pos _, fun m hm hy => ?_⟩
    obtain ⟨m1, m2, m3⟩ := maxL_max n ns
    have e : m = maxL n ns := by
      have h1 : maxL n ns ≤ m := by
        rcases m1 with z | z
        · rw [z]; exact hy _ List.mem_cons_self
        · exact hy _ (List.mem_cons_of_mem _ z)
      have h2 : m ≤ maxL n ns := by
        rcases List.mem_cons.mp hm with z | z
        · rw [z]; exact m2
        · exact m3 _ z
      omega
    rw [e]
    exact k _ G H ext_n s (.int _)
  · cases e
theorem cd_minL : CallD W (rMin W.K) (c1 gMinL) := by
  intro G H x a c Q s ra e k
  replace e := c1_eq e
  obtain ⟨d, rfl, e⟩ := e
  cases ra with | cons r rs =>
  cases rs
  cases r <;> first | (cases e; done) | skip
  rename_i ds h r
  unfold gMinL at e
  simp only at e
  split at e
  · rename_i n ns h1
    cases e
    cases ints?_eq h1
    refine ⟨_, n :: ns, rfl, by rw [← r.ints_of]; exact SqL.of (s _ _ h), Nat.succ_pos _, fun m hm hy => ?_⟩
    obtain ⟨m1, m2, m3⟩ := minL_min n ns
    have e : m = minL n ns := by
      have h1 : m ≤ minL n ns := by
        rcases m1 with z | z
        · rw [z]; exact hy _ List.mem_cons_self
        · exact hy _ (List.mem_cons_of_mem _ z)
      have h2 : minL n ns ≤ m := by
        rcases List.mem_cons.mp hm with z | z
        · rw [z]; exact m2
        · exact m3 _ z
      omega
    rw [e]
    exact k _ G H ext_n s (.int _)
  · cases e
def gAllL : DD → Option DD
  | .lst ds => (bls? ds).map fun bs => .bl (bs.all id)
  | _ => none
def gAnyL : DD → Option DD
  | .lst ds => (bls? ds).map fun bs => .bl (bs.any id)
  | _ => none
theorem cd_allL : CallD W (rAll W.K) (c1 gAllL) := by
  intro G H x a c Q s ra e k
  replace e := c1_eq e
  obtain ⟨d, rfl, e⟩ := e
  cases ra with | cons r rs =>
  cases rs
  cases r <;> first | (cases e; done) | skip
  rename_i h r
  obtain ⟨ns, h1, h2⟩ := Option.map_eq_some_iff.mp e
  cases h2
  cases bls?_eq h1
  exact ⟨_, ns, rfl, by rw [← r.bls_of]; exact SqL.of (s _ _ h), k _ G H ext_n s (.bl _)⟩
theorem cd_anyL : CallD W (rAny W.K) (c1 gAnyL) := by
  intro G H x a c Q s ra e k
  replace e := c1_eq e
  obtain ⟨d, rfl, e⟩ := e
  cases ra with | cons r rs =>
  cases rs
  cases r <;> first | (cases e; done) | skip
  rename_i h r
  obtain ⟨ns, h1, h2⟩ := Option.map_eq_some_iff.mp e
  cases h2
  cases bls?_eq h1
  exact ⟨_, ns, rfl, by rw [← r.bls_of]; exact SqL.of (s _ _ h), k _ G H ext_n s (.bl _)⟩
def gList (d : DD) : Option DD := (items? d).map .lst
theorem cd_list : CallD W (rListK W.K) (c1 gList) := by
  intro G H x a c Q s ra e k
  replace e := c1_eq e
  obtain ⟨d, rfl, e⟩ := e
  cases ra with | cons r rs =>
  cases rs
  obtain ⟨ds, h1, h2⟩ := Option.map_eq_some_iff.mp e
  cases h2
  cases r <;> first | (cases h1; done) | skip
  · rename_i h r
    cases h1
    exact ⟨_, _, rfl, .inl (SqL.of (s _ _ h)), fun p n => k _ _ _ (Ext.new n s) (same_both s) (rp_newL (s.free n) r)⟩
  · rename_i h r
    cases h1
    exact ⟨_, _, rfl, .inr (SqT.of (s _ _ h)), fun p n => k _ _ _ (Ext.new n s) (same_both s) (rp_newL (s.free n) r)⟩
def gTuple (d : DD) : Option DD := (items? d).map .tup
theorem cd_tuple : CallD W (rTupleK W.K) (c1 gTuple) := by
  intro G H x a c Q s ra e k
  replace e := c1_eq e
  obtain ⟨d, rfl, e⟩ := e
  cases ra with | cons r rs =>
  cases rs
  obtain ⟨ds, h1, h2⟩ := Option.map_eq_some_iff.mp e
  cases h2
  cases r <;> first | (cases h1; done) | skip
  · rename_i h r
    cases h1
    exact ⟨_, _, rfl, .inl ⟨SqL.of (s _ _ h), fun p n => k _ _ _ (Ext.new n s) (same_both s) (rp_newT (s.free n) r)⟩⟩
  · rename_i h r
    cases h1
    exact ⟨_, _, rfl, .inr ⟨SqT.of (s _ _ h), k _ G H ext_n s (.tup h r)⟩⟩
def signs (z : Str) : List DD := z.cps.toList.map fun c => DD.str ⟨#[c]⟩
theorem RpA.signs {K : PySem.W.Frag} {cm : CM} {H : Hp} : ∀ cs : List Nat, RpA K cm H (cs.map fun c => V.str ⟨#[c]⟩) (cs.map fun c => DD.str ⟨#[c]⟩)
  | [] => .nil
  | _ :: cs => .cons (.str _) (RpA.signs cs)
def gListS : DD → Option DD
  | .str z => if z.length ≤ sizeLine then some (.lst (signs z)) else none
  | _ => none
theorem cd_listS : CallD W (fun xs H Q => ∃ z : Str, xs = [.str z] ∧ z.length ≤ sizeLine ∧ ∀ q, H q = none → Q (.ref q) (upd H q (.lst (z.cps.toList.map fun c => V.str ⟨#[c]⟩)))) (c1 gListS) := by
  intro G H x a c Q s ra e k
  replace e := c1_eq e
  obtain ⟨d, rfl, e⟩ := e
  cases ra with | cons r rs =>
  cases rs
  cases d <;> first | (cases e; done) | skip
  rename_i z
  have e : (if z.length ≤ sizeLine then some (DD.lst (Np.signs z)) else none) = some c := e
  split at e
  · rename_i hz
    cases e
    exact ⟨z, by rw [r.str_of], hz, fun p n => k _ _ _ (Ext.new n s) (same_both s) (rp_newL (s.free n) (RpA.signs _))⟩
  · cases e
/-! ### isinstance -/
def tyN : DD → Option String
  | .non => some "NoneType"
  | .bl _ => some "bool"
  | .int _ => some "int"
  | .str _ => some "str"
  | .lst _ => some "list"
  | .tup _ => some "tuple"
  | .dic _ => some "dict"
  | .obj _ _ => none
  | .exc _ _ => none
  | .raw _ => none
theorem tyN_of {K : PySem.W.Frag} {cm : CM} {H : Hp} {v : V} {d : DD} {n : String} (r : Rp K cm H v d) (h : tyN d = some n) : TyX K H v (.type n) := by
  cases r <;> first | (cases h; done) | (cases h; first | exact .base .non | exact .base (.bl _) | exact .base (.int _) | exact .base (.str _) | (rename_i e _; first | exact .base (.lst e) | exact .base (.tup e) | exact .base (.dK e)))
def isT (T : String) (n : String) : Bool := n == T || (n == "bool" && T == "int")
def knownT (T : String) : Prop := T = "int" ∨ T = "str" ∨ T = "bool" ∨ T = "list" ∨ T = "tuple" ∨ T = "dict"
theorem kitB_is (T : String) (hT : knownT T) {d : DD} {n : String} (h : tyN d = some n) : kitB n T = some (isT T n) := by
  rcases hT with rfl | rfl | rfl | rfl | rfl | rfl <;> cases d <;> first | (cases h; done) | (cases h; decide +kernel)
def gIsi (T : String) (d : DD) : Option DD := (tyN d).map fun n => .bl (isT T n)
theorem dn_isi {T : String} (hT : knownT T) (ha : Dn W Wx ta δa) : Dn W Wx (tCB (rIsi W.K) (tCons ta (tCons (tC (.ty T)) tNil))) (dUn (gIsi T) δa) := fun tp G H σ ρ τ Q E P =>
  ha _ _ _ _ _ _ _ E (P.bind fun a τ1 x G1 H1 e1 E1 r1 P1 => by
    obtain ⟨c, hc, P2⟩ := P1.of
    obtain ⟨n, h1, h2⟩ := Option.map_eq_some_iff.mp hc
    cases h2
    exact ⟨x, .ty T, .type n, .type T, _, rfl, .ty _, tyN_of (r1.mono E1.g) h1, kit_ty (kitB_is T hT h1), P2 _ _ _ Ext.refl E1 (.bl _)⟩)
def gIsi2 (T U : String) (d : DD) : Option DD := (tyN d).map fun n => .bl (isT T n || isT U n)
theorem dn_isi2 {T U : String} (hT : knownT T) (hU : knownT U) (ha : Dn W Wx ta δa) : Dn W Wx (tCB (rIsiT W.K) (tCons ta (tCons (tTup (tCons (tC (.ty T)) (tCons (tC (.ty U)) tNil))) tNil))) (dUn (gIsi2 T U) δa) := fun tp G H σ ρ τ Q E P =>
  ha _ _ _ _ _ _ _ E (P.bind fun a τ1 x G1 H1 e1 E1 r1 P1 => by
    obtain ⟨c, hc, P2⟩ := P1.of
    obtain ⟨n, h1, h2⟩ := Option.map_eq_some_iff.mp hc
    cases h2
    refine ⟨(by show 2 ≤ sizeLine; decide), fun p np => ⟨x, p, _, .type n, [.type T, .type U], _, rfl, upd_same, .cons (.ty _) (.cons (.ty _) .nil), tyN_of (r1.mono (E1.g.trans (same_new np))) h1, ?_, P2 _ _ _ (Ext.newH np) (E1.newH np) (.bl _)⟩⟩
    refine kitAny_cons (kit_ty (kitB_is T hT h1)) (fun z => kitAny_cons (kit_ty (kitB_is U hU h1)) (fun z' => ?_) fun z' => ?_) fun z => ?_
    · rw [z, z']; rfl
    · rw [z, z']; rfl
    · rw [z]; rfl)
end
end Np

set_option Elab.async false
set_option linter.all false
set_option maxRecDepth 100000
set_option maxHeartbeats 4000000
namespace Np
open PySem PySem.Spec PyProof.Rows L2
section
variable {W : Wp} {Wx : L2.St → XK} {ta tb tc : TE} {δa δb δc : DE} {tr : TA} {δr : DA}
/-! ### methods of texts -/
def MtD (W : Wp) (r : V → List V → Hp → VK → Prop) (g : Str → List DD → Option DD) : Prop := ∀ (G H : Hp) (z : Str) (xs : List V) (as : List DD) (c : DD) (Q : VK), Same G H → RpA W.K W.cm G xs as → g z as = some c →
  (∀ v G' H', Ext none G H G' H' → Same G' H' → Rp W.K W.cm G' v c → Q v H') → r (.str z) xs H Q
def dM0 (g : Str → List DD → Option DD) (o : DE) : DE := fun ρ τ => (o ρ τ).bind fun x τ1 => match x with
  | .str z => R.of τ1 (g z [])
  | _ => .no
def dM1 (g : Str → List DD → Option DD) (o a : DE) : DE := fun ρ τ => (o ρ τ).bind fun x τ1 => match x with
  | .str z => (a ρ τ1).bind fun y τ2 => R.of τ2 (g z [y])
  | _ => .no
def dMs (g : Str → List DD → Option DD) (o : DE) (a : DA) : DE := fun ρ τ => (o ρ τ).bind fun x τ1 => match x with
  | .str z => (a ρ τ1).bind fun y τ2 => R.of τ2 (g z y)
  | _ => .no
theorem dn_m0 {r : V → List V → Hp → VK → Prop} {g : Str → List DD → Option DD} (h : MtD W r g) (ha : Dn W Wx ta δa) : Dn W Wx (tM0 r ta) (dM0 g δa) := fun tp G H σ ρ τ Q E P =>
  ha _ _ _ _ _ _ _ E (P.bind fun a τ1 x G1 H1 e1 E1 r1 P1 => by
    cases r1 <;> first | exact P1.elim | skip
    obtain ⟨c, hc, P2⟩ := P1.of
    exact ⟨⟨_, rfl⟩, h G1 H1 _ [] [] c Q E1.g .nil hc fun v G3 H3 e3 g3 r3 => P2 v G3 H3 e3.weak (E1.grow e3 g3) r3⟩)
theorem dn_m1 {r : V → List V → Hp → VK → Prop} {g : Str → List DD → Option DD} (h : MtD W r g) (ha : Dn W Wx ta δa) (hb : Dn W Wx tb δb) : Dn W Wx (tM1 r ta tb) (dM1 g δa δb) := fun tp G H σ ρ τ Q E P =>
  ha _ _ _ _ _ _ _ E (P.bind fun a τ1 x G1 H1 e1 E1 r1 P1 => by
    cases r1 <;> first | exact P1.elim | skip
    refine ⟨⟨_, rfl⟩, hb _ _ _ _ _ _ _ E1 (Pg.bind P1 fun b τ2 y G2 H2 e2 E2 r2 P2 => ?_)⟩
    obtain ⟨c, hc, P3⟩ := P2.of
    exact h G2 H2 _ [y] [b] c Q E2.g (.cons r2 .nil) hc fun v G3 H3 e3 g3 r3 => P3 v G3 H3 e3.weak (E2.grow e3 g3) r3)
theorem dn_bmS {r : V → List V → Hp → VK → Prop} {g : Str → List DD → Option DD} (h : MtD W r g) (ha : Dn W Wx ta δa) (hr : DnA W Wx tr δr) : Dn W Wx (tBM W.K "str" r ta tr) (dMs g δa δr) := fun tp G H σ ρ τ Q E P =>
  ha _ _ _ _ _ _ _ E (P.bind fun a τ1 x G1 H1 e1 E1 r1 P1 => by
    cases r1 <;> first | exact P1.elim | skip
    refine ⟨rfl, hr _ _ _ _ _ _ _ E1 (Pg.bind P1 fun b τ2 y G2 H2 e2 E2 r2 P2 => ?_)⟩
    obtain ⟨c, hc, P3⟩ := P2.of
    exact h G2 H2 _ y b c Q E2.g r2 hc fun v G3 H3 e3 g3 r3 => P3 v G3 H3 e3.weak (E2.grow e3 g3) r3)
def m0 (g : Str → Option DD) : Str → List DD → Option DD
  | z, [] => g z
  | _, _ => none
def m1S (g : Str → Str → Option DD) : Str → List DD → Option DD
  | z, [.str y] => g z y
  | _, _ => none
def m1I (g : Str → Int → Option DD) : Str → List DD → Option DD
  | z, [.int y] => g z y
  | _, _ => none
def m2S (g : Str → Str → Str → Option DD) : Str → List DD → Option DD
  | z, [.str y, .str x] => g z y x
  | _, _ => none
theorem m0_eq {g : Str → Option DD} {z : Str} {as : List DD} {c : DD} (h : m0 g z as = some c) : as = [] ∧ g z = some c := by
  unfold m0 at h
  split at h
  · exact ⟨rfl, h⟩
  · cases h
theorem m1S_eq {g : Str → Str → Option DD} {z : Str} {as : List DD} {c : DD} (h : m1S g z as = some c) : ∃ y, as = [.str y] ∧ g z y = some c := by
  unfold m1S at h
  split at h
  · exact ⟨_, rfl, h⟩
  · cases h
theorem m1I_eq {g : Str → Int → Option DD} {z : Str} {as : List DD} {c : DD} (h : m1I g z as = some c) : ∃ y, as = [.int y] ∧ g z y = some c := by
  unfold m1I at h
  split at h
  · exact ⟨_, rfl, h⟩
  · cases h
theorem ifs {α : Type} {p : Prop} [Decidable p] {a c : α} (h : (if p then some a else none) = some c) : p ∧ a = c := by
  split at h
  · rename_i q; exact ⟨q, Option.some.inj h⟩
  · cases h
abbrev gUpper := m0 fun z => if z.length ≤ 5592405 then some (.str (Txt.upper z)) else none
abbrev gLower := m0 fun z => if z.length ≤ 5592405 then some (.str (Txt.lower z)) else none
abbrev gStrip := m0 fun z => if z.length ≤ sizeLine then some (.str (Txt.strip z)) else none
theorem md_upper : MtD W (fun x xs H Q => ∃ a, x = .str a ∧ xs = [] ∧ a.length ≤ 5592405 ∧ Q (.str (Txt.upper a)) H) gUpper := by
  intro G H z xs as c Q s ra e k
  obtain ⟨rfl, e⟩ := m0_eq e
  cases ra
  obtain ⟨h, rfl⟩ := ifs e
  exact ⟨z, rfl, rfl, h, k _ G H ext_n s (.str _)⟩
theorem md_lower : MtD W (fun x xs H Q => ∃ a, x = .str a ∧ xs = [] ∧ a.length ≤ 5592405 ∧ Q (.str (Txt.lower a)) H) gLower := by
  intro G H z xs as c Q s ra e k
  obtain ⟨rfl, e⟩ := m0_eq e
  cases ra
  obtain ⟨h, rfl⟩ := ifs e
  exact ⟨z, rfl, rfl, h, k _ G H ext_n s (.str _)⟩
theorem md_strip : MtD W (fun x xs H Q => ∃ a, x = .str a ∧ xs = [] ∧ a.length ≤ sizeLine ∧ Q (.str (Txt.strip a)) H) gStrip := by
  intro G H z xs as c Q s ra e k
  obtain ⟨rfl, e⟩ := m0_eq e
  cases ra
  obtain ⟨h, rfl⟩ := ifs e
  exact ⟨z, rfl, rfl, h, k _ G H ext_n s (.str _)⟩
abbrev gStarts := m1S fun z y => some (.bl (Txt.startswith z y))
theorem md_starts : MtD W (fun x xs H Q => ∃ a b, x = .str a ∧ xs = [.str b] ∧ Q (.bl (Txt.startswith a b)) H) gStarts := by
  intro G H z xs as c Q s ra e k
  obtain ⟨y, rfl, e⟩ := m1S_eq e
  cases ra with | cons r rs =>
  cases rs
  cases e
  exact ⟨z, y, rfl, by rw [r.str_of], k _ G H ext_n s (.bl _)⟩
abbrev gSplit := m1S fun z y => if (y.length == 0) = false ∧ z.length + 2 ≤ sizeLine then some (.lst ((Txt.split z y).map .str)) else none
theorem md_split : MtD W (fun x xs H Q => ∃ a b, x = .str a ∧ xs = [.str b] ∧ (b.length == 0) = false ∧ a.length + 2 ≤ sizeLine ∧ rNewStrs (Txt.split a b) H Q) gSplit := by
  intro G H z xs as c Q s ra e k
  obtain ⟨y, rfl, e⟩ := m1S_eq e
  cases ra with | cons r rs =>
  cases rs
  obtain ⟨h, rfl⟩ := ifs e
  exact ⟨z, y, rfl, by rw [r.str_of], h.1, h.2, fun p n => k _ _ _ (Ext.new n s) (same_both s) (rp_newL (s.free n) (RpA.strs _))⟩
abbrev gZfill := m1I fun z y => if PadOk y = true then some (.str (Txt.zfill z y)) else none
abbrev gLjust := m1I fun z y => if PadOk y = true then some (.str (Txt.ljust z y)) else none
abbrev gRjust := m1I fun z y => if PadOk y = true then some (.str (Txt.rjust z y)) else none
theorem md_zfill : MtD W (fun x xs H Q => ∃ (a : Str) (i : Int), x = .str a ∧ xs = [.int i] ∧ PadOk i = true ∧ Q (.str (Txt.zfill a i)) H) gZfill := by
  intro G H z xs as c Q s ra e k
  obtain ⟨y, rfl, e⟩ := m1I_eq e
  cases ra with | cons r rs =>
  cases rs
  obtain ⟨h, rfl⟩ := ifs e
  exact ⟨z, y, rfl, by rw [r.int_of], h, k _ G H ext_n s (.str _)⟩
theorem md_ljust : MtD W (fun x xs H Q => ∃ (a : Str) (i : Int), x = .str a ∧ xs = [.int i] ∧ PadOk i = true ∧ Q (.str (Txt.ljust a i)) H) gLjust := by
  intro G H z xs as c Q s ra e k
  obtain ⟨y, rfl, e⟩ := m1I_eq e
  cases ra with | cons r rs =>
  cases rs
  obtain ⟨h, rfl⟩ := ifs e
  exact ⟨z, y, rfl, by rw [r.int_of], h, k _ G H ext_n s (.str _)⟩
theorem md_rjust : MtD W (fun x xs H Q => ∃ (a : Str) (i : Int), x = .str a ∧ xs = [.int i] ∧ PadOk i = true ∧ Q (.str (Txt.rjust a i)) H) gRjust := by
  intro G H z xs as c Q s ra e k
  obtain ⟨y, rfl, e⟩ := m1I_eq e
  cases ra with | cons r rs =>
  cases rs
  obtain ⟨h, rfl⟩ := ifs e
  exact ⟨z, y, rfl, by rw [r.int_of], h, k _ G H ext_n s (.str _)⟩
def gJoin (z : Str) : List DD → Option DD
  | [d] => match (items? d).bind strs? with
    | some ys => if (ys.map (·.length)).sum + ys.length * z.length ≤ 16777216 then some (.str (Txt.join z ys)) else none
    | none => none
  | _ => none
theorem md_join : MtD W (rJoinK W.K) gJoin := by
  intro G H z xs as c Q s ra e k
  unfold gJoin at e
  split at e
  · rename_i d
    cases ra with | cons r rs =>
    cases rs
    split at e
    · rename_i ys h1
      obtain ⟨h, rfl⟩ := ifs e
      obtain ⟨ds, h3, h4⟩ := Option.bind_eq_some_iff.mp h1
      cases strs?_eq h4
      cases r <;> first | (cases h3; done) | skip
      · rename_i q r
        cases h3
        exact ⟨z, _, ys, rfl, rfl, .inl (by rw [← r.strs_of]; exact SqL.of (s _ _ q)), h, k _ G H ext_n s (.str _)⟩
      · rename_i q r
        cases h3
        exact ⟨z, _, ys, rfl, rfl, .inr (by rw [← r.strs_of]; exact SqT.of (s _ _ q)), h, k _ G H ext_n s (.str _)⟩
    · cases e
  · cases e
/-! ### f-strings -/
def gFmt : DD → Option DD
  | .str y => if y.length ≤ sizeLine then some (.str y) else none
  | .int i => if i.natAbs.log2 < 1920 then some (.str (toString i)) else none
  | _ => none
theorem dn_fmt (ha : Dn W Wx ta δa) : Dn W Wx (tFmt ta) (dUn gFmt δa) := fun tp G H σ ρ τ Q E P =>
  ha _ _ _ _ _ _ _ E (P.bind fun a τ1 x G1 H1 e1 E1 r1 P1 => by
    obtain ⟨c, hc, P2⟩ := P1.of
    cases r1 <;> first | (cases hc; done) | skip
    · obtain ⟨h, rfl⟩ := ifs hc
      exact .inr ⟨_, rfl, h, P2 _ _ _ Ext.refl E1 (.str _)⟩
    · obtain ⟨h, rfl⟩ := ifs hc
      exact .inl ⟨_, rfl, h, P2 _ _ _ Ext.refl E1 (.str _)⟩)
def dJs : List DE → Str → DE
  | [], acc => fun _ τ => .ok (.str acc) τ
  | d :: ds, acc => fun ρ τ => (d ρ τ).bind fun x τ1 => match x with
    | .str y => if (acc ++ y).length ≤ sizeLine then dJs ds (acc ++ y) ρ τ1 else .no
    | _ => .no
inductive DnL (W : Wp) (Wx : L2.St → XK) : List TE → List DE → Prop
  | nil : DnL W Wx [] []
  | cons {t : TE} {δ : DE} {ts : List TE} {δs : List DE} : Dn W Wx t δ → DnL W Wx ts δs → DnL W Wx (t :: ts) (δ :: δs)
theorem dn_js {ts : List TE} {δs : List DE} (h : DnL W Wx ts δs) : ∀ acc, Dn W Wx (fun σ H Q => tJs ts acc σ H fun out H1 => Q (.str out) H1) (dJs δs acc) := by
  induction h with
  | nil => exact fun acc tp G H σ ρ τ Q E P => P _ G H Ext.refl E (.str _)
  | cons hd _ ih =>
    exact fun acc tp G H σ ρ τ Q E P => hd _ _ _ _ _ _ _ E (P.bind fun a τ1 x G1 H1 e1 E1 r1 P1 => by
      cases r1 <;> first | exact P1.elim | skip
      rename_i y
      by_cases hh : (acc ++ y).length ≤ sizeLine
      · refine ⟨y, rfl, hh, ih _ _ _ _ _ _ _ _ E1 ?_⟩
        simp only [if_pos hh] at P1
        exact P1
      · simp only [if_neg hh] at P1
        exact P1.elim)
theorem dn_joined {ts : List TE} {δs : List DE} (h : DnL W Wx ts δs) : Dn W Wx (fun σ H Q => tJs ts Str.empty σ H fun out H1 => Q (.str out) H1) (dJs δs Str.empty) := dn_js h _
/-! ### what is walked -/
structure ItR (W : Wp) (G : Hp) (J : It) (ds : List DD) : Prop where
  go : ∀ i H, Same G H → i < ds.length → J.go i H
  stop : ∀ H, Same G H → J.stop ds.length H
  yld : ∀ i d Gc H x H', Same G Gc → Same Gc H → ds[i]? = some d → J.yld i H x H' → ∃ G', Ext none Gc H G' H' ∧ Same G' H' ∧ Rp W.K W.cm G' x d
abbrev rI' (W : Wp) : Option Addr → Hp → It → List DD → Prop := fun _ G J ds => ItR W G J ds
abbrev DI := PEnv → TS' → R (List DD)
abbrev DnI (W : Wp) (Wx : L2.St → XK) (t : TI) (δ : DI) : Prop := DnG W Wx (rI' W) t δ
theorem ItR.mono {G G' : Hp} {J : It} {ds : List DD} (h : ItR W G J ds) (s : Same G G') : ItR W G' J ds :=
  ⟨fun i H s' => h.go i H (s.trans s'), fun H s' => h.stop H (s.trans s'), fun i d Gc H x H' s' => h.yld i d Gc H x H' (s.trans s')⟩
theorem ItR.list {G : Hp} {a : Addr} {xs : List V} {ds : List DD} (h : G a = some (.lst xs)) (r : RpA W.K W.cm G xs ds) : ItR W G (Itl W.K a) ds := by
  have w := walk_list (K := W.K) (a := a) (xs := xs)
  rw [r.length] at w
  refine ⟨fun i H s hi => w.goes i H hi (SqL.of (s _ _ h)), fun H s => w.stops H (SqL.of (s _ _ h)), fun i d Gc H x H' s s' hd y => ?_⟩
  obtain ⟨v, e, rv⟩ := r.get hd
  obtain ⟨rfl, e'⟩ := w.yields i H x H' (List.getElem?_eq_some_iff.mp hd).1 (SqL.of (s' _ _ (s _ _ h))) y
  rw [e] at e'
  cases e'
  exact ⟨Gc, ext_n, s', rv.mono s⟩
theorem ItR.tup {G : Hp} {a : Addr} {xs : List V} {ds : List DD} (h : G a = some (.tup xs)) (r : RpA W.K W.cm G xs ds) : ItR W G (Itt W.K a) ds := by
  have w := walk_tup (K := W.K) (a := a) (xs := xs)
  rw [r.length] at w
  refine ⟨fun i H s hi => w.goes i H hi (SqT.of (s _ _ h)), fun H s => w.stops H (SqT.of (s _ _ h)), fun i d Gc H x H' s s' hd y => ?_⟩
  obtain ⟨v, e, rv⟩ := r.get hd
  obtain ⟨rfl, e'⟩ := w.yields i H x H' (List.getElem?_eq_some_iff.mp hd).1 (SqT.of (s' _ _ (s _ _ h))) y
  rw [e] at e'
  cases e'
  exact ⟨Gc, ext_n, s', rv.mono s⟩
def rangeD (lo : Int) (n : Nat) : List DD := (List.range n).map fun (i : Nat) => DD.int (lo + i)
theorem rangeD_length (lo : Int) (n : Nat) : (rangeD lo n).length = n := by unfold rangeD; rw [List.length_map, List.length_range]
theorem ItR.range {G : Hp} {lo : Int} {n : Nat} : ItR W G (Itr lo n) (rangeD lo n) := by
  have w := walk_range (lo := lo) (n := n)
  refine ⟨fun i H s hi => w.goes i H (by rw [rangeD_length] at hi; exact hi) trivial, fun H s => by rw [rangeD_length]; exact w.stops H trivial, fun i d Gc H x H' s s' hd y => ?_⟩
  have hi : i < n := by have := (List.getElem?_eq_some_iff.mp hd).1; rw [rangeD_length] at this; exact this
  obtain ⟨rfl, rfl⟩ := w.yields i H x H' hi trivial y
  unfold rangeD at hd
  rw [List.getElem?_map, List.getElem?_range hi] at hd
  cases hd
  exact ⟨Gc, ext_n, s', .int _⟩
theorem ItR.str {G : Hp} {z : Str} : ItR W G (Its z) (signs z) := by
  have w := walk_str (z := z)
  have hl : (signs z).length = z.cps.size := by unfold signs; rw [List.length_map, Array.length_toList]
  refine ⟨fun i H s hi => w.goes i H (by rw [hl] at hi; exact hi) trivial, fun H s => by rw [hl]; exact w.stops H trivial, fun i d Gc H x H' s s' hd y => ?_⟩
  obtain ⟨rfl, c, hc, rfl⟩ := w.yields i H x H' (by rw [← hl]; exact (List.getElem?_eq_some_iff.mp hd).1) trivial y
  unfold signs at hd
  rw [List.getElem?_map, Array.getElem?_toList, hc] at hd
  cases hd
  exact ⟨Gc, ext_n, s', .str _⟩
def dIList (a : DE) : DI := fun ρ τ => (a ρ τ).bind fun x τ1 => match x with
  | .lst ds => .ok ds τ1
  | _ => .no
def dITup (a : DE) : DI := fun ρ τ => (a ρ τ).bind fun x τ1 => match x with
  | .tup ds => .ok ds τ1
  | _ => .no
def dIStr (a : DE) : DI := fun ρ τ => (a ρ τ).bind fun x τ1 => match x with
  | .str z => .ok (signs z) τ1
  | _ => .no
def dIR1 (a : DA) : DI := fun ρ τ => (a ρ τ).bind fun x τ1 => match x with
  | [.int j] => if -(2 ^ 62) ≤ j ∧ j < 2 ^ 62 then .ok (rangeD 0 j.toNat) τ1 else .no
  | _ => .no
def dIR2 (a : DA) : DI := fun ρ τ => (a ρ τ).bind fun x τ1 => match x with
  | [.int i, .int j] => if -(2 ^ 62) ≤ i ∧ i < 2 ^ 62 ∧ -(2 ^ 62) ≤ j ∧ j < 2 ^ 62 then .ok (rangeD i (j - i).toNat) τ1 else .no
  | _ => .no
theorem di_list (ha : Dn W Wx ta δa) : DnI W Wx (iList W.K ta) (dIList δa) := fun tp G H σ ρ τ Q E P =>
  ha _ _ _ _ _ _ _ E (P.bind fun a τ1 x G1 H1 e1 E1 r1 P1 => by
    cases r1 <;> first | exact P1.elim | skip
    rename_i h r
    exact ⟨_, rfl, ⟨_, SqL.of (E1.g _ _ h)⟩, P1 _ G1 H1 Ext.refl E1 (ItR.list h r)⟩)
theorem di_tup (ha : Dn W Wx ta δa) : DnI W Wx (iTup W.K ta) (dITup δa) := fun tp G H σ ρ τ Q E P =>
  ha _ _ _ _ _ _ _ E (P.bind fun a τ1 x G1 H1 e1 E1 r1 P1 => by
    cases r1 <;> first | exact P1.elim | skip
    rename_i h r
    exact ⟨_, rfl, ⟨_, SqT.of (E1.g _ _ h)⟩, P1 _ G1 H1 Ext.refl E1 (ItR.tup h r)⟩)
theorem di_str (ha : Dn W Wx ta δa) : DnI W Wx (iStr ta) (dIStr δa) := fun tp G H σ ρ τ Q E P =>
  ha _ _ _ _ _ _ _ E (P.bind fun a τ1 x G1 H1 e1 E1 r1 P1 => by
    cases r1 <;> first | exact P1.elim | skip
    exact ⟨_, rfl, P1 _ G1 H1 Ext.refl E1 ItR.str⟩)
theorem di_range1 (hr : DnA W Wx tr δr) : DnI W Wx (iRng1 tr) (dIR1 δr) := fun tp G H σ ρ τ Q E P =>
  hr _ _ _ _ _ _ _ E (P.bind fun a τ1 x G1 H1 e1 E1 r1 P1 => by
    split at P1
    · rename_i j
      by_cases h : -(2 ^ 62) ≤ j ∧ j < 2 ^ 62
      · rw [if_pos h] at P1
        cases r1 with | cons r rs =>
        cases rs
        exact ⟨j, by rw [r.int_of], h.1, h.2, P1 _ G1 H1 Ext.refl E1 ItR.range⟩
      · rw [if_neg h] at P1
        exact P1.elim
    · exact P1.elim)
theorem di_range2 (hr : DnA W Wx tr δr) : DnI W Wx (iRng2 tr) (dIR2 δr) := fun tp G H σ ρ τ Q E P =>
  hr _ _ _ _ _ _ _ E (P.bind fun a τ1 x G1 H1 e1 E1 r1 P1 => by
    split at P1
    · rename_i i j
      by_cases h : -(2 ^ 62) ≤ i ∧ i < 2 ^ 62 ∧ -(2 ^ 62) ≤ j ∧ j < 2 ^ 62
      · rw [if_pos h] at P1
        cases r1 with | cons r rs =>
        cases rs with | cons r' rs =>
        cases rs
        exact ⟨i, j, by rw [r.int_of, r'.int_of], h, P1 _ G1 H1 Ext.refl E1 ItR.range⟩
      · rw [if_neg h] at P1
        exact P1.elim
    · exact P1.elim)
/-- pairs -/
theorem ItR.pair {G : Hp} {J : It} {n : Nat} {Gp : Hp → Prop} {f g : Nat → Option V} {ds : List DD} (w : Walk J n Gp (YPair f g)) (hG : ∀ H, Same G H → Gp H) (hn : ds.length = n)
    (hd : ∀ i d, ds[i]? = some d → ∀ x y, f i = some x → g i = some y → ∃ a b, d = .tup [a, b] ∧ Rp W.K W.cm G x a ∧ Rp W.K W.cm G y b) : ItR W G J ds := by
  refine ⟨fun i H s hi => w.goes i H (by rw [← hn]; exact hi) (hG H s), fun H s => by rw [hn]; exact w.stops H (hG H s), fun i d Gc H x H' s s' hi y => ?_⟩
  obtain ⟨T, u, v, rfl, hT, rfl, e1, e2⟩ := w.yields i H x H' (by rw [← hn]; exact (List.getElem?_eq_some_iff.mp hi).1) (hG H (s.trans s')) y
  obtain ⟨a, b, rfl, ra, rb⟩ := hd i d hi u v e1 e2
  exact ⟨_, Ext.new hT s', same_both s', rp_newT (s'.free hT) (.cons (ra.mono s) (.cons (rb.mono s) .nil))⟩
def enumD (ds : List DD) : List DD := ds.mapIdx fun i d => DD.tup [.int (i : Nat), d]
def dIEnum (a : DA) : DI := fun ρ τ => (a ρ τ).bind fun x τ1 => match x with
  | [.lst ds] => .ok (enumD ds) τ1
  | _ => .no
def zipD (ds es : List DD) : List DD := List.zipWith (fun a b => DD.tup [a, b]) ds es
def dIZip (a : DA) : DI := fun ρ τ => (a ρ τ).bind fun x τ1 => match x with
  | [.lst ds, .lst es] => .ok (zipD ds es) τ1
  | _ => .no
def dIRev (a : DA) : DI := fun ρ τ => (a ρ τ).bind fun x τ1 => match x with
  | [.lst ds] => .ok ds.reverse τ1
  | _ => .no
theorem di_enum (hr : DnA W Wx tr δr) : DnI W Wx (iEnum W.K tr) (dIEnum δr) := fun tp G H σ ρ τ Q E P =>
  hr _ _ _ _ _ _ _ E (P.bind fun a τ1 x G1 H1 e1 E1 r1 P1 => by
    split at P1
    · rename_i ds
      cases r1 with | cons r rs =>
      cases rs
      cases r with | lst h r =>
      refine ⟨_, _, rfl, SqL.of (E1.g _ _ h), P1 _ G1 H1 Ext.refl E1 (ItR.pair (walk_enum (K := W.K)) (fun H s => SqL.of (s _ _ h)) (by unfold enumD; rw [List.length_mapIdx, r.length]) fun i d hd u v e1 e2 => ?_)⟩
      unfold enumD at hd
      rw [List.getElem?_mapIdx] at hd
      obtain ⟨c, hc, rfl⟩ := Option.map_eq_some_iff.mp hd
      obtain ⟨y, hy, ry⟩ := r.get hc
      cases e1
      rw [hy] at e2
      cases e2
      exact ⟨_, _, rfl, .int _, ry⟩
    · exact P1.elim)
theorem di_zip (hr : DnA W Wx tr δr) : DnI W Wx (iZip W.K tr) (dIZip δr) := fun tp G H σ ρ τ Q E P =>
  hr _ _ _ _ _ _ _ E (P.bind fun a τ1 x G1 H1 e1 E1 r1 P1 => by
    split at P1
    · rename_i ds es
      cases r1 with | cons r rs =>
      cases rs with | cons r' rs =>
      cases rs
      cases r with | lst h r =>
      cases r' with | lst h' r' =>
      refine ⟨_, _, _, _, rfl, SqL.of (E1.g _ _ h), SqL.of (E1.g _ _ h'), P1 _ G1 H1 Ext.refl E1 (ItR.pair (walk_zip (K := W.K) rfl) (fun H s => ⟨SqL.of (s _ _ h), SqL.of (s _ _ h')⟩) (by unfold zipD; rw [List.length_zipWith, r.length, r'.length]) fun i d hd u v e1 e2 => ?_)⟩
      obtain ⟨p, hp, rp⟩ := r.get' e1
      obtain ⟨q, hq, rq⟩ := r'.get' e2
      unfold zipD at hd
      rw [List.getElem?_zipWith, hp, hq] at hd
      cases hd
      exact ⟨_, _, rfl, rp, rq⟩
    · exact P1.elim)
theorem di_rev (hr : DnA W Wx tr δr) : DnI W Wx (iRev W.K tr) (dIRev δr) := fun tp G H σ ρ τ Q E P =>
  hr _ _ _ _ _ _ _ E (P.bind fun a τ1 x G1 H1 e1 E1 r1 P1 => by
    split at P1
    · rename_i ds
      cases r1 with | cons r rs =>
      cases rs
      cases r with | lst h r =>
      rename_i xs
      refine ⟨_, _, rfl, SqL.of (E1.g _ _ h), P1 _ G1 H1 Ext.refl E1 ?_⟩
      have w := walk_rev (K := W.K) (a := ‹Addr›) (xs := xs)
      refine ⟨fun i H s hi => w.goes i H (by rw [List.length_reverse, ← r.length] at hi; exact hi) (SqL.of (s _ _ h)), fun H s => by rw [List.length_reverse, ← r.length]; exact w.stops H (SqL.of (s _ _ h)), fun i d Gc H x H' s s' hd y => ?_⟩
      have hi : i < xs.length := by have := (List.getElem?_eq_some_iff.mp hd).1; rw [List.length_reverse, ← r.length] at this; exact this
      obtain ⟨rfl, e⟩ := w.yields i H x H' hi (SqL.of (s' _ _ (s _ _ h))) y
      rw [List.getElem?_reverse (by rw [← r.length]; exact hi), ← r.length] at hd
      obtain ⟨v, hv, rv⟩ := r.get hd
      rw [hv] at e
      cases e
      exact ⟨Gc, ext_n, s', rv.mono s⟩
    · exact P1.elim)
end
end Np

set_option Elab.async false
set_option linter.all false
set_option maxRecDepth 100000
set_option maxHeartbeats 4000000
namespace Np
open PySem PySem.Spec PyProof.Rows L2
/-! ### targets -/
inductive Tg where
  | nm (i : Nat) | tp (ts : List Tg)
mutual
def tgG (K : PySem.W.Frag) : Tg → TG
  | .nm i => gName i
  | .tp ts => gTup K ts.length (tgGs K ts)
def tgGs (K : PySem.W.Frag) : List Tg → TGs
  | [] => gNil
  | t :: ts => gCons (tgG K t) (tgGs K ts)
end
mutual
def tgF : Tg → DD → PEnv → Option PEnv
  | .nm i, d, ρ => some (ρ.set i (some (.fr d)))
  | .tp ts, .tup ds, ρ => tgFs ts ds ρ
  | _, _, _ => none
def tgFs : List Tg → List DD → PEnv → Option PEnv
  | [], [], ρ => some ρ
  | t :: ts, d :: ds, ρ => match tgF t d ρ with
    | some ρ1 => tgFs ts ds ρ1
    | none => none
  | _, _, _ => none
end
mutual
def tgS : Tg → List Nat
  | .nm i => [i]
  | .tp ts => tgSs ts
def tgSs : List Tg → List Nat
  | [] => []
  | t :: ts => tgS t ++ tgSs ts
end
/-- what is owned then was owned -/
def Sub (σ : L2.St) (ρ : PEnv) (σ' : L2.St) (ρ' : PEnv) : Prop := ∀ (j : Nat) (c : OC) (a : Addr), ρ'[j]? = some (some (PV.ow c)) → σ'[j]? = some (some (V.ref a)) → ρ[j]? = some (some (PV.ow c)) ∧ σ[j]? = some (some (V.ref a))
theorem Sub.refl {σ : L2.St} {ρ : PEnv} : Sub σ ρ σ ρ := fun _ _ _ a b => ⟨a, b⟩
theorem Sub.trans {σ σ1 σ2 : L2.St} {ρ ρ1 ρ2 : PEnv} (a : Sub σ ρ σ1 ρ1) (b : Sub σ1 ρ1 σ2 ρ2) : Sub σ ρ σ2 ρ2 := fun j c p h1 h2 => let ⟨x, y⟩ := b j c p h1 h2; a j c p x y
theorem set_get {α : Type} {l : List (Option α)} {i j : Nat} {x : Option α} {y : α} (h : (l.set i x)[j]? = some (some y)) (hx : x ≠ some y) : j ≠ i ∧ l[j]? = some (some y) := by
  by_cases e : i = j
  · subst e
    by_cases hl : i < l.length
    · rw [List.getElem?_set_self hl] at h
      exact absurd (Option.some.inj h) hx
    · rw [List.getElem?_eq_none (by rw [List.length_set]; omega)] at h
      cases h
  · rw [List.getElem?_set_ne e] at h
    exact ⟨fun z => e z.symm, h⟩
theorem Sub.set {σ : L2.St} {ρ : PEnv} {i : Nat} {v : Option V} {p : Option PV} (hp : ∀ c, p ≠ some (.ow c)) : Sub σ ρ (σ.set i v) (ρ.set i p) := fun j c a h1 h2 => by
  obtain ⟨n, h3⟩ := set_get h1 (hp c)
  rw [List.getElem?_set_ne (fun z => n z.symm)] at h2
  exact ⟨h3, h2⟩
section
variable {W : Wp} {Wx : L2.St → XK} {tp : Option Addr} {G H : Hp} {σ : L2.St} {ρ : PEnv} {τ : TS'}
theorem EnvV.setS {i : Nat} {v : Option V} {p : Option PV} (E : EnvV W tp G H σ ρ τ) (r : SlotR W tp G H v p) (hp : ∀ c, p ≠ some (.ow c)) : EnvV W tp G H (σ.set i v) (ρ.set i p) τ := by
  refine ⟨E.g, Paired.setL r i E.s, fun j k a b c c' F F' h1 h2 h3 h4 w w' => ?_, E.t⟩
  obtain ⟨a1, a2⟩ := Sub.set (σ := σ) (v := v) hp j c a h1 h3
  obtain ⟨b1, b2⟩ := Sub.set (σ := σ) (v := v) hp k c' b h2 h4
  exact E.d j k a b c c' F F' a1 b1 a2 b2 w w'
/-- no slot owns p -/
def FreeP (W : Wp) (G H : Hp) (σ : L2.St) (ρ : PEnv) (p : Addr) : Prop := ∀ (j : Nat) (c : OC) (a : Addr) (F : List Addr), ρ[j]? = some (some (PV.ow c)) → σ[j]? = some (some (V.ref a)) → OwR W G H a c F → p ∉ F
theorem EnvV.noO {p : Addr} (E : EnvV W tp G H σ ρ τ) (n : H p = none) : FreeP W G H σ ρ p := fun j c a F h1 h2 w hp => w.at p hp n
theorem FreeP.ext {p : Addr} {G' H' : Hp} (f : FreeP W G H σ ρ p) (E : EnvV W tp G H σ ρ τ) (e : Ext tp G H G' H') : FreeP W G' H' σ ρ p := fun j c a F h1 h2 w => f j c a F h1 h2 (E.backE e h1 h2 w)
theorem EnvV.setF {i : Nat} {v : V} {d : DD} (E : EnvV W tp G H σ ρ τ) (r : Rp W.K W.cm G v d) : EnvV W tp G H (σ.set i (some v)) (ρ.set i (some (.fr d))) τ := E.setS r fun _ z => by cases z
theorem EnvV.setN {i : Nat} (E : EnvV W tp G H σ ρ τ) : EnvV W tp G H (σ.set i none) (ρ.set i none) τ := E.setS (v := none) (p := none) trivial fun _ z => by cases z
def wipeP (ρ : PEnv) : List Nat → PEnv
  | [] => ρ
  | v :: vs => (wipeP ρ vs).set v none
theorem EnvV.wipe (E : EnvV W tp G H σ ρ τ) : ∀ vs, EnvV W tp G H (L2.wipe σ vs) (wipeP ρ vs) τ
  | [] => E
  | v :: vs => (E.wipe vs).setN
theorem wipe_set {i : Nat} {x : Option V} : ∀ {vs : List Nat} {σ : L2.St}, i ∈ vs → L2.wipe (σ.set i x) vs = L2.wipe σ vs
  | v :: vs, σ, h => by
    unfold L2.wipe
    by_cases hv : i ∈ vs
    · rw [wipe_set hv]
    · have e : i = v := by
        rcases List.mem_cons.mp h with z | z
        · exact z
        · exact absurd z hv
      subst e
      have : ∀ (vs : List Nat), i ∉ vs → L2.wipe (σ.set i x) vs = (L2.wipe σ vs).set i x := by
        intro vs
        induction vs with
        | nil => intro _; rfl
        | cons w ws ih =>
          intro hn
          unfold L2.wipe
          rw [ih fun z => hn (List.mem_cons_of_mem _ z), List.set_comm]
          exact fun z => hn (by rw [z]; exact List.mem_cons_self)
      rw [this vs hv, List.set_set]
mutual
theorem tg_run : ∀ (t : Tg) {σ : L2.St} {ρ ρ' : PEnv} {x : V} {d : DD} {Kc : L2.St → Hp → Prop}, EnvV W tp G H σ ρ τ → Rp W.K W.cm G x d → tgF t d ρ = some ρ' →
    (∀ σ', EnvV W tp G H σ' ρ' τ → Sub σ ρ σ' ρ' → (∀ js, (∀ i ∈ tgS t, i ∈ js) → L2.wipe σ' js = L2.wipe σ js) → Kc σ' H) → tgG W.K t x σ H Kc
  | .nm i, σ, ρ, ρ', x, d, Kc, E, r, h, k => by
    rw [tgF] at h
    cases h
    rw [tgG]
    exact k _ (E.setF r) (Sub.set fun _ z => by cases z) fun js hj => wipe_set (hj i (by rw [tgS]; exact List.mem_cons_self))
  | .tp ts, σ, ρ, ρ', x, d, Kc, E, r, h, k => by
    rw [tgG]
    cases d <;> first | (rw [tgF] at h <;> first | (cases h; done) | (intros; contradiction)) | skip
    rw [tgF] at h
    cases r with | tup e rs =>
    rename_i ds a xs
    have hl : xs.length = ts.length := by
      rw [rs.length]
      clear rs e k
      have : ∀ (ts : List Tg) (ds : List DD) (ρ ρ' : PEnv), tgFs ts ds ρ = some ρ' → ds.length = ts.length := by
        intro ts
        induction ts with
        | nil => intro ds ρ ρ' h; cases ds with
          | nil => rfl
          | cons d ds => rw [tgFs] at h <;> first | (cases h; done) | (intros; contradiction)
        | cons t ts ih =>
          intro ds ρ ρ' h
          cases ds with
          | nil => rw [tgFs] at h <;> first | (cases h; done) | (intros; contradiction)
          | cons d ds =>
            rw [tgFs] at h
            split at h
            · exact congrArg Nat.succ (ih _ _ _ h)
            · cases h
      exact this _ _ _ _ h
    exact ⟨_, xs, rfl, SqT.of (E.g _ _ e), hl, tgs_run ts E rs h fun σ' E' s w => k σ' E' s fun js hj => w js (by rw [tgS] at hj; exact hj)⟩
theorem tgs_run : ∀ (ts : List Tg) {σ : L2.St} {ρ ρ' : PEnv} {xs : List V} {ds : List DD} {Kc : L2.St → Hp → Prop}, EnvV W tp G H σ ρ τ → RpA W.K W.cm G xs ds → tgFs ts ds ρ = some ρ' →
    (∀ σ', EnvV W tp G H σ' ρ' τ → Sub σ ρ σ' ρ' → (∀ js, (∀ i ∈ tgSs ts, i ∈ js) → L2.wipe σ' js = L2.wipe σ js) → Kc σ' H) → tgGs W.K ts xs σ H Kc
  | [], σ, ρ, ρ', xs, ds, Kc, E, r, h, k => by
    rw [tgGs]
    cases ds with
    | nil =>
      rw [tgFs] at h
      cases h
      cases r
      exact ⟨rfl, k _ E Sub.refl fun _ _ => rfl⟩
    | cons d ds => rw [tgFs] at h <;> first | (cases h; done) | (intros; contradiction)
  | t :: ts, σ, ρ, ρ', xs, ds, Kc, E, r, h, k => by
    rw [tgGs]
    cases ds with
    | nil => rw [tgFs] at h <;> first | (cases h; done) | (intros; contradiction)
    | cons d ds =>
      rw [tgFs] at h
      split at h
      · rename_i ρ1 h1
        cases r with | cons r rs =>
        refine ⟨_, _, rfl, tg_run t E r h1 fun σ1 E1 s1 w1 => tgs_run ts E1 rs h fun σ2 E2 s2 w2 => k σ2 E2 (s1.trans s2) fun js hj => ?_⟩
        rw [w2 js fun i hi => hj i (by rw [tgSs]; exact List.mem_append_right _ hi), w1 js fun i hi => hj i (by rw [tgSs]; exact List.mem_append_left _ hi)]
      · cases h
end
/-! ### comprehensions -/
def R.nox {α : Type} : R α → R α
  | .ok a τ => .ok a τ
  | _ => .no
@[simp] theorem R.nox_ok {α : Type} (a : α) (τ : TS') : (R.ok a τ).nox = .ok a τ := id rfl
abbrev W0 : L2.St → XK := fun _ => E0
def lcL (t : Tg) (c : DT) (e : DE) (ρ : PEnv) : List DD → TS' → R (List DD)
  | [], τ => .ok [] τ
  | d :: ds, τ => match tgF t d ρ with
    | none => .no
    | some ρ1 => (c ρ1 τ).nox.bind fun b τ1 => if b = true then (e ρ1 τ1).nox.bind fun y τ2 => (lcL t c e ρ ds τ2).bind fun ys τ3 => .ok (y :: ys) τ3 else lcL t c e ρ ds τ1
def dLc (i : DI) (t : Tg) (c : DT) (e : DE) (vs : List Nat) : DE := fun ρ τ => (i ρ τ).bind fun ds τ1 => if ds.length ≤ sizeLine then (lcL t c e (wipeP ρ vs) ds τ1).bind fun ys τ2 => .ok (.lst ys) τ2 else .no
def dYes : DT := fun _ τ => .ok true τ
theorem dt_yes : DnT W Wx tYes dYes := fun tp G H σ ρ τ Q E P => P true G H Ext.refl E rfl
theorem R.nox_eq {α β : Type} {r : R α} {f : α → TS' → R β} {b : β} {τ' : TS'} (h : r.nox.bind f = .ok b τ') : ∃ a τ1, r = .ok a τ1 ∧ f a τ1 = .ok b τ' := by
  cases r with
  | ok a τ1 => exact ⟨a, τ1, rfl, h⟩
  | ex x τ1 => cases h
  | no => cases h
theorem R.bind_eq {α β : Type} {r : R α} {f : α → TS' → R β} {b : β} {τ' : TS'} (h : r.bind f = .ok b τ') : ∃ a τ1, r = .ok a τ1 ∧ f a τ1 = .ok b τ' := by
  cases r with
  | ok a τ1 => exact ⟨a, τ1, rfl, h⟩
  | ex x τ1 => cases h
  | no => cases h
theorem lcL_inv {t : Tg} {c : DT} {e : DE} {ρ : PEnv} {d : DD} {ds ys : List DD} {τ τ' : TS'} (h : lcL t c e ρ (d :: ds) τ = .ok ys τ') : ∃ ρ1 b τ1, tgF t d ρ = some ρ1 ∧ c ρ1 τ = .ok b τ1 ∧
    ((b = true ∧ ∃ y τ2 zs, e ρ1 τ1 = .ok y τ2 ∧ lcL t c e ρ ds τ2 = .ok zs τ' ∧ ys = y :: zs) ∨ (b = false ∧ lcL t c e ρ ds τ1 = .ok ys τ')) := by
  rw [lcL] at h
  split at h
  · cases h
  · rename_i ρ1 h1
    obtain ⟨b, τ1, h2, h3⟩ := R.nox_eq h
    refine ⟨ρ1, b, τ1, h1, h2, ?_⟩
    cases b with
    | false => exact .inr ⟨rfl, h3⟩
    | true =>
      obtain ⟨y, τ2, h4, h5⟩ := R.nox_eq h3
      obtain ⟨zs, τ3, h6, h7⟩ := R.bind_eq h5
      cases h7
      exact .inl ⟨rfl, y, τ2, zs, h4, h6, rfl⟩
theorem Ext.mut {G' H' : Hp} {p : Addr} {o : HO} (e : Ext tp G H G' H') (n : H p = none) : Ext tp G H G' (upd H' p o) :=
  ⟨e.g, fun q u nq h => by rw [upd_ne (ne_of_none h n)]; exact e.h q u nq h, e.f⟩
/-- a thing that no slot has is changed -/
theorem EnvV.mutH {p : Addr} {o : HO} (E : EnvV W tp G H σ ρ τ) (g : G p = none) (nt : tp ≠ some p) (no : FreeP W G H σ ρ p) : EnvV W tp G (upd H p o) σ ρ τ := by
  have kp : ∀ {j : Nat} {c : OC} {a : Addr} {F : List Addr}, ρ[j]? = some (some (PV.ow c)) → σ[j]? = some (some (V.ref a)) → OwR W G H a c F → OwR W G (upd H p o) a c F := fun h1 h2 w => w.keep (Same.refl _) fun q hq u hu => by
    rw [upd_ne (fun z => no _ _ _ _ h1 h2 w (by rw [← z]; exact hq))]; exact hu
  refine ⟨same_mut E.g g, Paired.mapI E.s fun j v q hv hq h => ?_, fun i j a b c c' F F' h1 h2 h3 h4 w w' => ?_, ?_⟩
  · match v, q, h with
    | _, none, _ => trivial
    | some v, some (.fr d), h => exact h
    | some v, some (.ow c), ⟨a, F, r, w, gn⟩ =>
      subst r
      exact ⟨a, F, rfl, kp hq hv w, gn⟩
    | some v, some .tape, h => exact h
    | some v, some (.scr ns), h => exact h
  · obtain ⟨F1, w1, _⟩ := E.own h1 h3
    obtain ⟨F2, w2, _⟩ := E.own h2 h4
    rw [w.uniq (kp h1 h3 w1), w'.uniq (kp h2 h4 w2)]
    exact E.d i j a b c c' F1 F2 h1 h2 h3 h4 w1 w2
  · have := E.t
    match tp, τ, this, nt with
    | none, none, _, _ => trivial
    | some a, some τ, ⟨g, c, s, h⟩, nt => exact ⟨g, c, s, by rw [upd_ne (fun z => nt (by rw [z]))]; exact h⟩
theorem EnvV.noT {p : Addr} (E : EnvV W tp G H σ ρ τ) (n : H p = none) : tp ≠ some p := fun z => by
  have := E.t
  subst z
  cases τ with
  | none => exact this
  | some t => obtain ⟨_, c, _, e⟩ := this; rw [n] at e; cases e
theorem wipe_wipe {σ : L2.St} : ∀ {vs : List Nat}, L2.wipe (L2.wipe σ vs) vs = L2.wipe σ vs := by
  have : ∀ (us vs : List Nat), (∀ i ∈ us, i ∈ vs) → L2.wipe (L2.wipe σ us) vs = L2.wipe σ vs := by
    intro us
    induction us with
    | nil => intro vs _; rfl
    | cons u us ih =>
      intro vs h
      show L2.wipe ((L2.wipe σ us).set u none) vs = _
      rw [wipe_set (h u List.mem_cons_self), ih vs fun i hi => h i (List.mem_cons_of_mem _ hi)]
  exact fun {vs} => this vs vs fun _ h => h
theorem lc_run {J : It} {tt : TT} {te : TE} {vs : List Nat} {δc : DT} {δe : DE} {t : Tg} {ds ys : List DD} {τ1 τ' : TS'} {G1 H1 : Hp} {D : Addr} {Qd : Hp → Prop} (hv : (tgS t).all (fun i => decide (i ∈ vs)) = true) (hc : DnT W W0 tt δc) (he : Dn W W0 te δe)
    (E1 : EnvV W tp G1 H1 σ ρ τ1) (it : ItR W G1 J ds) (hl : ds.length ≤ sizeLine) (hok : lcL t δc δe (wipeP ρ vs) ds τ1 = .ok ys τ') (nD : H1 D = none)
    (k : ∀ acc G' H', Ext tp G1 H1 G' H' → EnvV W tp G' H' σ ρ τ' → G' D = none → H' D = some (.lst acc) → RpA W.K W.cm G' acc ys → Qd H') :
    ∃ W' : Nat → Nat → Hp → Prop, (∃ m, W' 0 m (upd H1 D (.lst []))) ∧ ∀ i m H, W' i m H →
      (J.stop i H ∧ Qd H) ∨ (J.go i H ∧ ∃ Nx : Hp → Prop, (∀ H', Nx H' → ∃ m', m' < m ∧ W' (i + 1) m' H') ∧ ∀ x H', J.yld i H x H' → tgG W.K t x (L2.wipe σ vs) H' fun σ2 H2 => L2.wipe σ2 vs = L2.wipe σ vs ∧ tt σ2 H2 fun b H3 =>
        if b = true then te σ2 H3 fun y H4 => ∃ acc, H4 D = some (.lst acc) ∧ acc.length < sizeLine ∧ Nx (upd H4 D (.lst (acc ++ [y]))) else Nx H3) := by
  have ndt := E1.noT nD
  have noD := E1.noO nD
  have w : Walk J ds.length (fun H => Same G1 H) (fun i H x H' => ∀ d Gc, ds[i]? = some d → Same G1 Gc → Same Gc H → ∃ G', Ext none Gc H G' H' ∧ Same G' H' ∧ Rp W.K W.cm G' x d) :=
    ⟨fun i H hi s => it.go i H s hi, fun H s => it.stop H s, fun i H x H' hi s y d Gc hd s1 s2 => it.yld i d Gc H x H' s1 s2 hd y⟩
  refine lc_it w (fun i Hc => ∃ Gc τc acc done rest, Ext tp G1 H1 Gc Hc ∧ EnvV W tp Gc Hc σ ρ τc ∧ Gc D = none ∧ Hc D = some (.lst acc) ∧ RpA W.K W.cm Gc acc done ∧ done.length ≤ i ∧
        lcL t δc δe (wipeP ρ vs) (ds.drop i) τc = .ok rest τ' ∧ ys = done ++ rest) ?_ (fun i Hc _ h => ?_) ?_ ?_
  · exact ⟨G1, τ1, [], [], ys, Ext.newH nD, E1.newH nD, E1.g.free nD, upd_same, .nil, Nat.le_refl _, hok, rfl⟩
  · obtain ⟨Gc, τc, acc, done, rest, ec, Ec, _⟩ := h
    exact ec.g.trans Ec.g
  · rintro i x Hc Hc' hi ⟨Gc, τc, acc, done, rest, ec, Ec, gD, hD, ra, hdn, hr, hys⟩ y
    obtain ⟨d, hd⟩ : ∃ d, ds[i]? = some d := ⟨ds[i], List.getElem?_eq_getElem hi⟩
    have hdr : ds.drop i = d :: ds.drop (i + 1) := by
      obtain ⟨h1, h2⟩ := List.getElem?_eq_some_iff.mp hd
      rw [List.drop_eq_getElem_cons h1, h2]
    obtain ⟨Gd, ed, sd, rd⟩ := y d Gc hd ec.g Ec.g
    have Ed := Ec.grow ed sd
    rw [hdr] at hr
    obtain ⟨ρ1, b, τ2, hf, hcb, hcase⟩ := lcL_inv hr
    refine tg_run t (Ed.wipe vs) rd hf fun σ2 E2 s2 w2 => ⟨by rw [w2 vs fun i hi => of_decide_eq_true (List.all_eq_true.mp hv i hi)]; exact wipe_wipe, hc _ _ _ _ _ _ _ E2 ?_⟩
    rw [hcb]
    intro b' G3 H3 e3 E3 rb
    cases rb
    have E3' : EnvV W tp G3 H3 σ ρ τ2 := Ed.ext e3 E3.g E3.t
    have e03 : Ext tp G1 H1 G3 H3 := (ec.trans ed.weak).trans e3
    have hD3 : H3 D = some (.lst acc) := e3.h D _ ndt (ed.h D _ (by simp) hD)
    have gD3 : G3 D = none := e3.f D ndt (by rw [ed.h D _ (by simp) hD]; simp) (ed.f D (by simp) (by rw [hD]; simp) gD)
    have ra3 := ra.mono (ed.g.trans e3.g)
    rcases hcase with ⟨rfl, y, τ4, zs, hy, hz, rfl⟩ | ⟨rfl, hz⟩
    · refine iteT (he _ _ _ _ _ _ _ E3 ?_)
      rw [hy]
      intro v G4 H4 e4 E4 ry
      have E4' : EnvV W tp G4 H4 σ ρ τ4 := E3'.ext e4 E4.g E4.t
      have gD4 : G4 D = none := e4.f D ndt (by rw [hD3]; simp) gD3
      refine ⟨acc, e4.h D _ ndt hD3, by rw [ra.length]; omega, G4, τ4, acc ++ [v], done ++ [y], zs, (e03.trans e4).mut nD, E4'.mutH gD4 ndt (noD.ext E1 (e03.trans e4)), gD4, upd_same, (ra3.mono e4.g).append (.cons ry .nil), by rw [List.length_append]; show _ + 1 ≤ _; omega, hz, by rw [hys, List.append_assoc]; rfl⟩
    · exact iteF ⟨G3, τ2, acc, done, rest, e03, E3', gD3, hD3, ra3, by omega, hz, hys⟩
  · rintro Hc ⟨Gc, τc, acc, done, rest, ec, Ec, gD, hD, ra, hdn, hr, hys⟩
    rw [List.drop_length] at hr
    cases hr
    rw [List.append_nil] at hys
    subst hys
    exact k acc Gc Hc ec Ec gD hD ra
theorem lcL_noex {t : Tg} {c : DT} {e : DE} {ρ : PEnv} {x : Ex} {τ' : TS'} : ∀ {ds : List DD} {τ : TS'}, lcL t c e ρ ds τ = .ex x τ' → False
  | [], _, h => by cases h
  | d :: ds, τ, h => by
    rw [lcL] at h
    split at h
    · cases h
    · rename_i ρ1 _
      cases hc : c ρ1 τ with
      | no => rw [hc] at h; cases h
      | ex y τy => rw [hc] at h; cases h
      | ok b τ1 =>
        rw [hc] at h
        cases b with
        | false => exact lcL_noex (ds := ds) h
        | true =>
          simp only [R.nox_ok, R.bind_ok, if_true] at h
          cases he : e ρ1 τ1 with
          | no => rw [he] at h; simp [R.nox] at h
          | ex y τy => rw [he] at h; simp [R.nox] at h
          | ok y τ2 =>
            rw [he] at h
            cases hl : lcL t c e ρ ds τ2 with
            | no => simp [hl] at h
            | ex z τz => exact lcL_noex hl
            | ok zs τ3 => simp [hl] at h
/-- a thing that no slot has stays from now on -/
theorem EnvV.freeze {p : Addr} {o : HO} (E : EnvV W tp G H σ ρ τ) (g : G p = none) (h : H p = some o) (nt : tp ≠ some p) (no : FreeP W G H σ ρ p) : EnvV W tp (upd G p o) H σ ρ τ := by
  have s1 : Same G (upd G p o) := same_new g
  refine ⟨fun q u hq => ?_, Paired.mapI E.s fun j v q hv hq' h => ?_, fun i j a b c c' F F' h1 h2 h3 h4 w w' => E.d i j a b c c' F F' h1 h2 h3 h4 (E.back s1 (fun _ _ _ h => h) h1 h3 w) (E.back s1 (fun _ _ _ h => h) h2 h4 w'), ?_⟩
  · by_cases z : q = p
    · subst z
      rw [upd_same] at hq
      rw [h, hq]
    · rw [upd_ne z] at hq
      exact E.g q u hq
  · match v, q, h with
    | _, none, _ => trivial
    | some v, some (.fr d), h => exact Rp.mono s1 h
    | some v, some (.ow c), ⟨a, F, r, w, gn⟩ =>
      subst r
      exact ⟨a, F, rfl, w.keep s1 fun _ _ o h => h, fun q hq => ⟨by rw [upd_ne (fun z => no j c a F hq' hv w (by rw [← z]; exact hq))]; exact (gn q hq).1, (gn q hq).2⟩⟩
    | some v, some .tape, h => exact h
    | some v, some (.scr ns), ⟨a, r, q⟩ => exact ⟨a, r, s1.seq q⟩
  · have := E.t
    match tp, τ, this, nt with
    | none, none, _, _ => trivial
    | some a, some τ, ⟨g, c, s, h⟩, nt => exact ⟨by rw [upd_ne (fun z => nt (by rw [z]))]; exact g, c, s1 _ _ s, h⟩
theorem dn_lc {wi : TI} {tt : TT} {te : TE} {vs : List Nat} {δi : DI} {δc : DT} {δe : DE} {t : Tg} (hv : (tgS t).all (fun i => decide (i ∈ vs)) = true) (hi : DnI W Wx wi δi) (hc : DnT W W0 tt δc) (he : Dn W W0 te δe) :
    Dn W Wx (tLc wi (tgG W.K t) tt te vs) (dLc δi t δc δe vs) := fun tp G H σ ρ τ Q E P =>
  hi _ _ _ _ _ _ _ E (P.bind fun ds τ1 J G1 H1 e1 E1 it P1 D nD => by
    by_cases hl : ds.length ≤ sizeLine
    · rw [if_pos hl] at P1
      cases hok : lcL t δc δe (wipeP ρ vs) ds τ1 with
      | no => rw [hok] at P1; exact P1.elim
      | ex x τx => exact (lcL_noex hok).elim
      | ok ys τ' =>
        rw [hok] at P1
        refine lc_run hv hc he E1 it hl hok nD fun acc G' H' e E' gD hD ra => ?_
        refine P1 (.ref D) (upd G' D (.lst acc)) H' ⟨e.g.trans (same_new gD), e.h, fun p np hp hg => ?_⟩ (E'.freeze gD hD (E1.noT nD) ((E1.noO nD).ext E1 e)) (rp_newL gD ra)
        rw [upd_ne (fun z => hp (by rw [z]; exact nD))]
        exact e.f p np hp hg
    · rw [if_neg hl] at P1
      exact P1.elim)
end
end Np

set_option Elab.async false
set_option linter.all false
set_option maxRecDepth 100000
set_option maxHeartbeats 4000000
namespace Np
open PySem PySem.Spec PyProof.Rows L2
/-! ### statements -/
inductive Ct where
  | nx (ρ : PEnv) | rt (d : DD) | bk (ρ : PEnv) | ct (ρ : PEnv) | xc (x : Ex) (ρ : PEnv) | ro (c : OC)
abbrev DS := PEnv → TS' → R Ct
structure EnvS (W : Wp) (tp0 : Option Addr) (G0 H0 : Hp) (tp : Option Addr) (G H : Hp) (σ : L2.St) (ρ : PEnv) (τ : TS') : Prop where
  v : EnvV W tp G H σ ρ τ
  e : Ext tp0 G0 H0 G H
  o : ∀ (j : Nat) (c : OC) (a : Addr) (F : List Addr), ρ[j]? = some (some (PV.ow c)) → σ[j]? = some (some (V.ref a)) → OwR W G H a c F → ∀ p ∈ F, H0 p = none
  t : tp = tp0 ∨ (tp0 = none ∧ ∃ p, tp = some p ∧ H0 p = none)
section
variable (W : Wp) (Wx : L2.St → XK)
def Ps (tp0 : Option Addr) (G0 H0 : Hp) (G : Hp) (D : Ends) : R Ct → Prop
  | .ok (.nx ρ) τ => ∀ tp' G' H' σ', Same G G' → EnvS W tp0 G0 H0 tp' G' H' σ' ρ τ → D.nx σ' H'
  | .ok (.bk ρ) τ => ∀ tp' G' H' σ', Same G G' → EnvS W tp0 G0 H0 tp' G' H' σ' ρ τ → D.bk σ' H'
  | .ok (.ct ρ) τ => ∀ tp' G' H' σ', Same G G' → EnvS W tp0 G0 H0 tp' G' H' σ' ρ τ → D.ct σ' H'
  | .ok (.rt d) τ => ∀ v tp' G' H', Ext tp0 G0 H0 G' H' → Same G' H' → TapeO W G' H' tp' τ → (tp' = tp0 ∨ tp0 = none) → Rp W.K W.cm G' v d → D.rt v H'
  | .ok (.ro c) τ => ∀ p F tp' G' H', Ext tp0 G0 H0 G' H' → Same G' H' → TapeO W G' H' tp' τ → (tp' = tp0 ∨ tp0 = none) → OwR W G' H' p c F → (∀ q ∈ F, H0 q = none ∧ G' q = none ∧ tp' ≠ some q) → D.rt (.ref p) H'
  | .ok (.xc x ρ) τ => ∀ d tp' G' H' σ', Same G G' → EnvS W tp0 G0 H0 tp' G' H' σ' ρ τ → ExR W G' H' x d → Wx σ' (.ref (W.cm x.cls)) d H'
  | _ => False
def DnS (t : L2.TS) (δ : DS) : Prop := ∀ tp0 G0 H0 tp G H σ ρ τ D, EnvS W tp0 G0 H0 tp G H σ ρ τ → Ps W Wx tp0 G0 H0 G D (δ ρ τ) → t D σ H
end
def stE {α : Type} (r : R α) (ρ : PEnv) (f : α → TS' → R Ct) : R Ct := match r with
  | .ok a τ => f a τ
  | .ex x τ => .ok (.xc x ρ) τ
  | .no => .no
@[simp] theorem stE_ok {α : Type} (a : α) (τ : TS') (ρ : PEnv) (f : α → TS' → R Ct) : stE (.ok a τ) ρ f = f a τ := id rfl
@[simp] theorem stE_ex {α : Type} (a : Ex) (τ : TS') (ρ : PEnv) (f : α → TS' → R Ct) : stE (.ex a τ) ρ f = .ok (.xc a ρ) τ := id rfl
@[simp] theorem stE_no {α : Type} (ρ : PEnv) (f : α → TS' → R Ct) : stE (.no) ρ f = .no := id rfl
section
variable {W : Wp} {Wx : L2.St → XK} {tp0 tp tp' : Option Addr} {G0 H0 G H G' H' : Hp} {σ : L2.St} {ρ : PEnv} {τ τ' : TS'} {D : Ends}
theorem Ext.comp (e : Ext tp0 G0 H0 G H) (t : tp = tp0 ∨ (tp0 = none ∧ ∃ p, tp = some p ∧ H0 p = none)) (e' : Ext tp G H G' H') (ht : ∀ p, tp = some p → G' p = none ∨ H0 p = none) : Ext tp0 G0 H0 G' H' := by
  refine ⟨e.g.trans e'.g, fun p o n h => e'.h p o ?_ (e.h p o n h), fun p n hp hg => ?_⟩
  · rcases t with rfl | ⟨rfl, q, rfl, hq⟩
    · exact n
    · intro z; cases z; rw [hq] at h; cases h
  · rcases t with rfl | ⟨rfl, q, rfl, hq⟩
    · refine e'.f p n ?_ (e.f p n hp hg)
      cases z : H0 p with
      | none => exact absurd z hp
      | some o => rw [e.h p o n z]; simp
    · have hpq : some q ≠ some p := fun z => by cases z; exact hp hq
      refine e'.f p hpq ?_ (e.f p n hp hg)
      cases z : H0 p with
      | none => exact absurd z hp
      | some o => rw [e.h p o n z]; simp
theorem EnvV.tapeF {p : Addr} (E : EnvV W tp G H σ ρ τ) (h : tp = some p) : G p = none := by
  have := E.t
  subst h
  cases τ with
  | none => exact this.elim
  | some t => exact this.1
theorem EnvS.step (E : EnvS W tp0 G0 H0 tp G H σ ρ τ) (e : Ext tp G H G' H') (E' : EnvV W tp G' H' σ ρ τ') : EnvS W tp0 G0 H0 tp G' H' σ ρ τ' :=
  ⟨E', E.e.comp E.t e fun p hp => .inl (E'.tapeF hp), fun j c a F h1 h2 w => E.o j c a F h1 h2 (E.v.backE e h1 h2 w), E.t⟩
theorem EnvS.sub {σ' : L2.St} {ρ' : PEnv} (E : EnvS W tp0 G0 H0 tp G H σ ρ τ) (E' : EnvV W tp G H σ' ρ' τ) (s : Sub σ ρ σ' ρ') : EnvS W tp0 G0 H0 tp G H σ' ρ' τ :=
  ⟨E', E.e, fun j c a F h1 h2 w => let ⟨x, y⟩ := s j c a h1 h2; E.o j c a F x y w, E.t⟩
theorem Ps.shift {r : R Ct} (P : Ps W Wx tp0 G0 H0 G D r) (s : Same G G') : Ps W Wx tp0 G0 H0 G' D r := by
  match r, P with
  | .ok (.nx ρ) τ, P => exact fun tp' G2 H' σ' s' => P tp' G2 H' σ' (s.trans s')
  | .ok (.bk ρ) τ, P => exact fun tp' G2 H' σ' s' => P tp' G2 H' σ' (s.trans s')
  | .ok (.ct ρ) τ, P => exact fun tp' G2 H' σ' s' => P tp' G2 H' σ' (s.trans s')
  | .ok (.rt d) τ, P => exact P
  | .ok (.ro d) τ, P => exact P
  | .ok (.xc x ρ) τ, P => exact fun d tp' G2 H' σ' s' => P d tp' G2 H' σ' (s.trans s')
  | .ex x τ, P => exact P.elim
  | .no, P => exact P.elim
theorem Ps.bind {α β : Type} {rel : Option Addr → Hp → β → α → Prop} {Q' : β → Hp → Prop} {r : R α} {f : α → TS' → R Ct} (P : Ps W Wx tp0 G0 H0 G D (stE r ρ f)) (E : EnvS W tp0 G0 H0 tp G H σ ρ τ)
    (k : ∀ a τ1 b G1 H1, EnvS W tp0 G0 H0 tp G1 H1 σ ρ τ1 → Ext tp G H G1 H1 → rel tp G1 b a → Ps W Wx tp0 G0 H0 G1 D (f a τ1) → Q' b H1) : Pg W Wx rel tp σ ρ G H Q' r := by
  cases r with
  | ok a τ1 => exact fun b G1 H1 e1 E1 r1 => k a τ1 b G1 H1 (E.step e1 E1) e1 r1 (Ps.shift (r := f a τ1) P e1.g)
  | ex x τ1 => exact fun d G1 H1 e1 E1 hx => P d tp G1 H1 σ e1.g (E.step e1 E1) hx
  | no => exact P.elim
variable {te : TE} {δe : DE} {t u : L2.TS} {δt δu : DS} {tc : TT} {δc : DT}
/-! the small ones -/
def dNx : DS := fun ρ τ => .ok (.nx ρ) τ
def dBk : DS := fun ρ τ => .ok (.bk ρ) τ
def dCt : DS := fun ρ τ => .ok (.ct ρ) τ
def dSeq (a b : DS) : DS := fun ρ τ => match a ρ τ with
  | .ok (.nx ρ1) τ1 => b ρ1 τ1
  | r => r
def dSet (i : Nat) (e : DE) : DS := fun ρ τ => stE (e ρ τ) ρ fun d τ1 => .ok (.nx (ρ.set i (some (.fr d)))) τ1
def dDrop (e : DE) : DS := fun ρ τ => stE (e ρ τ) ρ fun d τ1 => .ok (.nx ρ) τ1
def dRet (e : DE) : DS := fun ρ τ => stE (e ρ τ) ρ fun d τ1 => .ok (.rt d) τ1
def dRetN : DS := fun ρ τ => .ok (.rt .non) τ
def dIfS (c : DT) (a b : DS) : DS := fun ρ τ => stE (c ρ τ) ρ fun x τ1 => if x = true then a ρ τ1 else b ρ τ1
def dAsgT (e : DE) (g : Tg) : DS := fun ρ τ => stE (e ρ τ) ρ fun d τ1 => match tgF g d ρ with
  | some ρ1 => .ok (.nx ρ1) τ1
  | none => .no
def dAug (i : Nat) (g : DD → DD → Option DD) (e : DE) : DS := fun ρ τ => match ρ[i]? with
  | some (some (.fr x)) => stE (e ρ τ) ρ fun y τ1 => match g x y with
    | some z => .ok (.nx (ρ.set i (some (.fr z)))) τ1
    | none => .no
  | _ => .no
theorem ds_next : DnS W Wx tNext dNx := fun tp0 G0 H0 tp G H σ ρ τ D E P => P tp G H σ (Same.refl _) E
theorem ds_break : DnS W Wx tBreak dBk := fun tp0 G0 H0 tp G H σ ρ τ D E P => P tp G H σ (Same.refl _) E
theorem ds_cont : DnS W Wx tCont dCt := fun tp0 G0 H0 tp G H σ ρ τ D E P => P tp G H σ (Same.refl _) E
theorem ds_seq (ht : DnS W Wx t δt) (hu : DnS W Wx u δu) : DnS W Wx (tSeq t u) (dSeq δt δu) := fun tp0 G0 H0 tp G H σ ρ τ D E P => by
  refine ht _ _ _ _ _ _ _ _ _ _ E ?_
  unfold dSeq at P
  split at P
  · rename_i ρ1 τ1 h
    rw [h]
    exact fun tp' G' H' σ' s E' => hu _ _ _ _ _ _ _ _ _ _ E' (Ps.shift P s)
  · rename_i h
    revert P h
    match δt ρ τ with
    | .ok (.nx ρ) τ => intro h P; exact (h ρ τ rfl).elim
    | .ok (.bk ρ) τ => intro _ P; exact P
    | .ok (.ct ρ) τ => intro _ P; exact P
    | .ok (.rt d) τ => intro _ P; exact P
    | .ok (.ro d) τ => intro _ P; exact P
    | .ok (.xc x ρ) τ => intro _ P; exact P
    | .ex x τ => intro _ P; exact P.elim
    | .no => intro _ P; exact P.elim
theorem EnvS.setF {i : Nat} {v : V} {d : DD} (E : EnvS W tp0 G0 H0 tp G H σ ρ τ) (r : Rp W.K W.cm G v d) : EnvS W tp0 G0 H0 tp G H (σ.set i (some v)) (ρ.set i (some (.fr d))) τ :=
  E.sub (E.v.setF r) (Sub.set fun _ z => by cases z)
theorem ds_set {i : Nat} (he : Dn W Wx te δe) : DnS W Wx (tAsg te (gName i)) (dSet i δe) := fun tp0 G0 H0 tp G H σ ρ τ D E P =>
  he _ _ _ _ _ _ _ E.v (P.bind E fun d τ1 v G1 H1 E1 e1 r1 P1 => P1 tp G1 H1 _ (Same.refl _) (E1.setF r1))
theorem ds_drop (he : Dn W Wx te δe) : DnS W Wx (tDrop te) (dDrop δe) := fun tp0 G0 H0 tp G H σ ρ τ D E P =>
  he _ _ _ _ _ _ _ E.v (P.bind E fun d τ1 v G1 H1 E1 e1 r1 P1 => P1 tp G1 H1 _ (Same.refl _) E1)
theorem ds_ret (he : Dn W Wx te δe) : DnS W Wx (tRet te) (dRet δe) := fun tp0 G0 H0 tp G H σ ρ τ D E P =>
  he _ _ _ _ _ _ _ E.v (P.bind E fun d τ1 v G1 H1 E1 e1 r1 P1 => P1 v tp G1 H1 E1.e E1.v.g E1.v.t (E1.t.imp id fun z => z.1) r1)
theorem ds_retN : DnS W Wx tRetN dRetN := fun tp0 G0 H0 tp G H σ ρ τ D E P => P .non tp G H E.e E.v.g E.v.t (E.t.imp id fun z => z.1) .non
theorem ds_if (hc : DnT W Wx tc δc) (ht : DnS W Wx t δt) (hu : DnS W Wx u δu) : DnS W Wx (tIfS tc t u) (dIfS δc δt δu) := fun tp0 G0 H0 tp G H σ ρ τ D E P =>
  hc _ _ _ _ _ _ _ E.v (P.bind E fun b τ1 v G1 H1 E1 e1 r1 P1 => by
    cases r1
    cases b with
    | true => exact iteT (ht _ _ _ _ _ _ _ _ _ _ E1 P1)
    | false => exact iteF (hu _ _ _ _ _ _ _ _ _ _ E1 P1))
theorem ds_asgT {g : Tg} (he : Dn W Wx te δe) : DnS W Wx (tAsg te (tgG W.K g)) (dAsgT δe g) := fun tp0 G0 H0 tp G H σ ρ τ D E P =>
  he _ _ _ _ _ _ _ E.v (P.bind E fun d τ1 v G1 H1 E1 e1 r1 P1 => by
    cases hg : tgF g d ρ with
    | none => rw [hg] at P1; exact P1.elim
    | some ρ1 =>
      rw [hg] at P1
      exact tg_run g E1.v r1 hg fun σ' E' s _ => P1 tp G1 H1 _ (Same.refl _) (E1.sub E' s))
theorem ds_aug {i : Nat} {r : R2} {g : DD → DD → Option DD} (ho : OpD W r g) (he : Dn W Wx te δe) : DnS W Wx (tAug i te r) (dAug i g δe) := fun tp0 G0 H0 tp G H σ ρ τ D E P => by
  unfold dAug at P
  split at P
  · rename_i x h
    obtain ⟨v, h1, h2⟩ := Paired.getL E.v.s h
    cases v with
    | none => exact h2.elim
    | some v =>
      refine ⟨v, h1, he _ _ _ _ _ _ _ E.v (P.bind E fun d τ1 y G1 H1 E1 e1 r1 P1 => ?_)⟩
      cases hg : g x d with
      | none => rw [hg] at P1; exact P1.elim
      | some z =>
        rw [hg] at P1
        exact ho G1 H1 v y x d z _ E1.v.g (Rp.mono e1.g h2) r1 hg fun u G2 H2 e2 s2 r2 => P1 tp G2 H2 _ e2.g ((E1.step e2.weak (E1.v.grow e2 s2)).setF r2)
  · exact P.elim
/-- a, b = x, y -/
def dPar (i j : Nat) (a : DA) : DS := fun ρ τ => stE (a ρ τ) ρ fun ds τ1 => match ds with
  | [d, e] => .ok (.nx ((ρ.set i (some (.fr d))).set j (some (.fr e)))) τ1
  | _ => .no
variable {ta : TA} {δa : DA}
theorem ds_par {i j : Nat} (ha : DnA W Wx ta δa) : DnS W Wx (tPar i j ta) (dPar i j δa) := fun tp0 G0 H0 tp G H σ ρ τ D E P =>
  ha _ _ _ _ _ _ _ E.v (P.bind E fun ds τ1 vs G1 H1 E1 e1 r1 P1 => by
    split at P1
    · cases r1 with | cons r rs =>
      cases rs with | cons r' rs =>
      cases rs
      exact ⟨_, _, rfl, P1 tp G1 H1 _ (Same.refl _) ((E1.setF r).setF r')⟩
    · exact P1.elim)
/-! ### owned lists -/
/-- what is made new, as a slot's own -/
def PgF (W : Wp) (Wx : L2.St → XK) (tp : Option Addr) (σ : L2.St) (ρ : PEnv) (G H : Hp) (Q : VK) : R OC → Prop
  | .ok c τ => ∀ p F G' H', Ext tp G H G' H' → EnvV W tp G' H' σ ρ τ → OwR W G' H' p c F → (∀ q ∈ F, H q = none ∧ G' q = none ∧ tp ≠ some q) → Q (.ref p) H'
  | .ex x τ => ∀ d G' H', Ext tp G H G' H' → EnvV W tp G' H' σ ρ τ → ExR W G' H' x d → Wx σ (.ref (W.cm x.cls)) d H'
  | .no => False
def DnF (W : Wp) (Wx : L2.St → XK) (t : TE) (δ : PEnv → TS' → R OC) : Prop := ∀ tp G H σ ρ τ (Q : VK), EnvV W tp G H σ ρ τ → PgF W Wx tp σ ρ G H Q (δ ρ τ) → t σ H Q
def dLstF (a : DA) : PEnv → TS' → R OC := fun ρ τ => (a ρ τ).bind fun x τ1 => if x.length ≤ sizeLine then .ok (.lst x) τ1 else .no
theorem Ext.back {p : Addr} {tp : Option Addr} {G H G' H' : Hp} (e : Ext tp G H G' H') (n : H' p = none) (nt : tp ≠ some p) : H p = none := by
  cases q : H p with
  | none => rfl
  | some o => rw [e.h p o nt q] at n; cases n
theorem fr1 {p : Addr} (n : H p = none) (g : G' p = none) (nt : tp ≠ some p) : ∀ q ∈ [p], H q = none ∧ G' q = none ∧ tp ≠ some q := fun q hq => by
  cases List.mem_singleton.mp hq
  exact ⟨n, g, nt⟩
theorem PgF.shift {Q : VK} {r : R OC} (P : PgF W Wx tp σ ρ G H Q r) (e : Ext tp G H G' H') : PgF W Wx tp σ ρ G' H' Q r := by
  cases r with
  | ok c τ => exact fun p F G2 H2 e2 E2 w fr => P p F G2 H2 (e.trans e2) E2 w fun q hq => ⟨e.back (fr q hq).1 (fr q hq).2.2, (fr q hq).2⟩
  | ex x τ => exact fun d G2 H2 e2 => P d G2 H2 (e.trans e2)
  | no => exact P
theorem PgF.bind {α β : Type} {rel : Option Addr → Hp → β → α → Prop} {Q : VK} {Q' : β → Hp → Prop} {r : R α} {f : α → TS' → R OC} (P : PgF W Wx tp σ ρ G H Q (r.bind f))
    (k : ∀ a τ1 b G1 H1, Ext tp G H G1 H1 → EnvV W tp G1 H1 σ ρ τ1 → rel tp G1 b a → PgF W Wx tp σ ρ G1 H1 Q (f a τ1) → Q' b H1) : Pg W Wx rel tp σ ρ G H Q' r := by
  cases r with
  | ok a τ1 => exact fun b G1 H1 e1 E1 r1 => k a τ1 b G1 H1 e1 E1 r1 (PgF.shift (r := f a τ1) P e1)
  | ex x τ1 => exact P
  | no => exact P
theorem df_lst (ha : DnA W Wx ta δa) : DnF W Wx (tLst ta) (dLstF δa) := fun tp G H σ ρ τ Q E P =>
  ha _ _ _ _ _ _ _ E (P.bind fun a τ1 x G1 H1 e1 E1 r1 P1 => by
    by_cases h : a.length ≤ sizeLine
    · rw [if_pos h] at P1
      exact ⟨by rw [r1.length]; exact h, fun p n => P1 p [p] G1 _ (Ext.newH n) (E1.newH n) ⟨rfl, _, upd_same, r1⟩ (fr1 n (E1.g.free n) (E1.noT n))⟩
    · rw [if_neg h] at P1
      exact P1.elim)
/-- a comprehension's list, as a slot's own -/
def dLcF (i : DI) (t : Tg) (c : DT) (e : DE) (vs : List Nat) : PEnv → TS' → R OC := fun ρ τ => (i ρ τ).bind fun ds τ1 => if ds.length ≤ sizeLine then (lcL t c e (wipeP ρ vs) ds τ1).bind fun ys τ2 => .ok (.lst ys) τ2 else .no
theorem df_lc {wi : TI} {tt : TT} {te : TE} {vs : List Nat} {δi : DI} {δc : DT} {δe : DE} {t : Tg} (hv : (tgS t).all (fun i => decide (i ∈ vs)) = true) (hi : DnI W Wx wi δi) (hc : DnT W W0 tt δc) (he : Dn W W0 te δe) :
    DnF W Wx (tLc wi (tgG W.K t) tt te vs) (dLcF δi t δc δe vs) := fun tp G H σ ρ τ Q E P =>
  hi _ _ _ _ _ _ _ E (P.bind fun ds τ1 J G1 H1 e1 E1 it P1 D nD => by
    by_cases hl : ds.length ≤ sizeLine
    · rw [if_pos hl] at P1
      cases hok : lcL t δc δe (wipeP ρ vs) ds τ1 with
      | no => rw [hok] at P1; exact P1.elim
      | ex x τx => exact (lcL_noex hok).elim
      | ok ys τ' =>
        rw [hok] at P1
        exact lc_run hv hc he E1 it hl hok nD fun acc G' H' e E' gD hD ra => P1 D [D] G' H' e E' ⟨rfl, acc, hD, ra⟩ (fr1 nD gD (E1.noT nD))
    · rw [if_neg hl] at P1
      exact P1.elim)
def dSetO (i : Nat) (e : PEnv → TS' → R OC) : DS := fun ρ τ => stE (e ρ τ) ρ fun c τ1 => .ok (.nx (ρ.set i (some (.ow c)))) τ1
/-- where a slot was set -/
theorem set_own {α : Type} {l : List (Option α)} {i j : Nat} {x y : α} (h : (l.set i (some x))[j]? = some (some y)) : (j = i ∧ x = y) ∨ (j ≠ i ∧ l[j]? = some (some y)) := by
  by_cases e : i = j
  · subst e
    by_cases hl : i < l.length
    · rw [List.getElem?_set_self hl] at h
      cases h
      exact .inl ⟨rfl, rfl⟩
    · rw [List.getElem?_eq_none (by rw [List.length_set]; omega)] at h
      cases h
  · rw [List.getElem?_set_ne e] at h
    exact .inr ⟨fun z => e z.symm, h⟩
theorem EnvV.setO {i : Nat} {p : Addr} {c : OC} {F : List Addr} (E : EnvV W tp G H σ ρ τ) (w : OwR W G H p c F) (fr : ∀ q ∈ F, G q = none ∧ tp ≠ some q) (no : ∀ q ∈ F, FreeP W G H σ ρ q) :
    EnvV W tp G H (σ.set i (some (.ref p))) (ρ.set i (some (.ow c))) τ := by
  refine ⟨E.g, Paired.setL (show SlotR W tp G H (some (.ref p)) (some (.ow c)) from ⟨p, F, rfl, w, fr⟩) i E.s, fun j k a b c1 c2 F1 F2 h1 h2 h3 h4 w1 w2 q q1 q2 => ?_, E.t⟩
  rcases set_own h1 with ⟨rfl, e⟩ | ⟨nj, h1'⟩
  · cases e
    rcases set_own h3 with ⟨_, e⟩ | ⟨nj, _⟩
    · cases e
      rcases set_own h2 with ⟨rfl, _⟩ | ⟨nk, h2⟩
      · rfl
      · rw [List.getElem?_set_ne (fun z => nk z.symm)] at h4
        rw [w1.uniq w] at q1
        exact (no q q1 k c2 b F2 h2 h4 w2 q2).elim
    · exact (nj rfl).elim
  · rw [List.getElem?_set_ne (fun z => nj z.symm)] at h3
    rcases set_own h2 with ⟨rfl, e⟩ | ⟨nk, h2⟩
    · cases e
      rcases set_own h4 with ⟨_, e⟩ | ⟨nk, _⟩
      · cases e
        rw [w2.uniq w] at q2
        exact (no q q2 j c1 a F1 h1' h3 w1 q1).elim
      · exact (nk rfl).elim
    · rw [List.getElem?_set_ne (fun z => nk z.symm)] at h4
      exact E.d j k a b c1 c2 F1 F2 h1' h2 h3 h4 w1 w2 q q1 q2
theorem EnvS.freeT {p : Addr} (E : EnvS W tp0 G0 H0 tp G H σ ρ τ) (n : H p = none) : H0 p = none := by
  cases q : H0 p with
  | none => rfl
  | some o =>
    have nt : tp0 ≠ some p := fun z => by
      rcases E.t with h | ⟨h, _⟩
      · exact E.v.noT n (by rw [h, z])
      · rw [h] at z; cases z
    rw [E.e.h p o nt q] at n
    cases n
theorem EnvS.setO {i : Nat} {p : Addr} {c : OC} {F : List Addr} (E : EnvS W tp0 G0 H0 tp G H σ ρ τ) (w : OwR W G H p c F) (fr : ∀ q ∈ F, G q = none ∧ tp ≠ some q) (no : ∀ q ∈ F, FreeP W G H σ ρ q) (n0 : ∀ q ∈ F, H0 q = none) :
    EnvS W tp0 G0 H0 tp G H (σ.set i (some (.ref p))) (ρ.set i (some (.ow c))) τ := by
  refine ⟨E.v.setO w fr no, E.e, fun j c' a F' h1 h2 w' => ?_, E.t⟩
  rcases set_own h1 with ⟨rfl, e⟩ | ⟨nj, h1⟩
  · cases e
    rcases set_own h2 with ⟨_, e⟩ | ⟨nj, _⟩
    · cases e
      rw [w'.uniq w]
      exact n0
    · exact (nj rfl).elim
  · rw [List.getElem?_set_ne (fun z => nj z.symm)] at h2
    exact E.o j c' a F' h1 h2 w'
theorem ds_setO {i : Nat} {δ : PEnv → TS' → R OC} (he : DnF W Wx te δ) : DnS W Wx (tAsg te (gName i)) (dSetO i δ) := fun tp0 G0 H0 tp G H σ ρ τ D E P => by
  refine he _ _ _ _ _ _ _ E.v ?_
  unfold dSetO at P
  cases h : δ ρ τ with
  | no => rw [h] at P; exact P.elim
  | ex x τ1 => rw [h] at P; exact fun d G1 H1 e1 E1 hx => P d tp G1 H1 σ e1.g (E.step e1 E1) hx
  | ok c τ1 =>
    rw [h] at P
    intro p F G1 H1 e1 E1 w fr
    exact P tp G1 H1 _ e1.g ((E.step e1 E1).setO w (fun q hq => (fr q hq).2) (fun q hq => (E.v.noO (fr q hq).1).ext E.v e1) (fun q hq => E.freeT (fr q hq).1))
theorem set_self {α : Type} {l : List (Option α)} {i : Nat} {x : α} (h : l[i]? = some (some x)) : l.set i (some x) = l := by
  apply List.ext_getElem?
  intro n
  by_cases hn : i = n
  · subst hn
    rw [List.getElem?_set_self (List.getElem?_eq_some_iff.mp h).1, h]
  · rw [List.getElem?_set_ne hn]
/-- an owned thing changes: nothing but its nodes; new nodes are of nobody -/
theorem EnvS.mutG {i : Nat} {a : Addr} {c c' : OC} {F F' : List Addr} (E : EnvS W tp0 G0 H0 tp G H σ ρ τ) (hi : ρ[i]? = some (some (PV.ow c))) (ha : σ[i]? = some (some (V.ref a))) (w : OwR W G H a c F)
    (hH : ∀ q o, q ∉ F → H q = some o → H' q = some o) (w' : OwR W G H' a c' F') (hF : ∀ q ∈ F', q ∈ F ∨ (FreeP W G H σ ρ q ∧ G q = none ∧ tp ≠ some q ∧ H0 q = none)) :
    EnvS W tp0 G0 H0 tp G H' σ (ρ.set i (some (.ow c'))) τ := by
  obtain ⟨F0, w0, gn⟩ := E.v.own hi ha
  cases w0.uniq w
  have kp : ∀ {j : Nat} {d : OC} {b : Addr} {F1 : List Addr}, j ≠ i → ρ[j]? = some (some (PV.ow d)) → σ[j]? = some (some (V.ref b)) → OwR W G H b d F1 → OwR W G H' b d F1 := fun {j d b F1} hj h1 h2 w1 => w1.keep (Same.refl _) fun q hq o => hH q o fun z => hj (E.v.d j i b a d c F1 F h1 hi h2 ha w1 w q hq z)
  have gs : Same G H' := fun q o hq => hH q o (fun z => by rw [(gn q z).1] at hq; cases hq) (E.v.g q o hq)
  have fr' : ∀ q ∈ F', G q = none ∧ tp ≠ some q := fun q hq => (hF q hq).elim (gn q) fun z => ⟨z.2.1, z.2.2.1⟩
  have bk : ∀ {j : Nat} {d : OC} {b : Addr} {F1 : List Addr}, j ≠ i → ρ[j]? = some (some (PV.ow d)) → σ[j]? = some (some (V.ref b)) → OwR W G H' b d F1 → OwR W G H b d F1 := fun {j d b F1} hj h1 h2 w1 => by
    obtain ⟨F2, w2, _⟩ := E.v.own h1 h2
    rw [w1.uniq (kp hj h1 h2 w2)]
    exact w2
  have dj : ∀ {j : Nat} {d : OC} {b : Addr} {F1 : List Addr}, j ≠ i → ρ[j]? = some (some (PV.ow d)) → σ[j]? = some (some (V.ref b)) → OwR W G H b d F1 → ∀ q ∈ F', q ∉ F1 := fun {j d b F1} hj h1 h2 w1 q hq q1 => by
    rcases hF q hq with z | z
    · exact hj (E.v.d j i b a d c F1 F h1 hi h2 ha w1 w q q1 z)
    · exact z.1 j d b F1 h1 h2 w1 q1
  have hl : i < ρ.length := (List.getElem?_eq_some_iff.mp hi).1
  refine ⟨⟨gs, ?_, fun j k b1 b2 c1 c2 F1 F2 h1 h2 h3 h4 w1 w2 q q1 q2 => ?_, ?_⟩, ⟨E.e.g, fun p u n h => hH p u (fun z => ?_) (E.e.h p u n h), E.e.f⟩, fun j c1 b F1 h1 h2 w1 q hq => ?_, E.t⟩
  · have base : Paired (fun x y => SlotR W tp G H' x y ∨ ∃ c, y = some (PV.ow c)) σ ρ := Paired.mapI E.v.s fun j v q hv hq h => by
      match v, q, h with
      | _, none, _ => exact .inl (by cases v <;> trivial)
      | some v, some (.fr d), h => exact .inl h
      | some v, some (.ow c1), h => exact .inr ⟨_, rfl⟩
      | some v, some .tape, h => exact .inl h
      | some v, some (.scr ns), h => exact .inl h
    have fin : Paired (SlotR W tp G H') (σ.set i (some (V.ref a))) (ρ.set i (some (PV.ow c'))) := by
      have := Paired.setL (F := fun x y => SlotR W tp G H' x y ∨ ∃ c, y = some (PV.ow c)) (x := some (V.ref a)) (y := some (PV.ow c')) (.inr ⟨_, rfl⟩) i base
      refine Paired.mapI this fun j v q hv hq h => ?_
      rcases h with h | ⟨c1, rfl⟩
      · exact h
      · rcases set_own hq with ⟨rfl, e⟩ | ⟨nj, hq⟩
        · cases e
          rw [set_self ha] at hv
          rw [ha] at hv
          cases hv
          exact ⟨a, F', rfl, w', fr'⟩
        · rw [List.getElem?_set_ne (fun z => nj z.symm)] at hv
          obtain ⟨b, F1, h2, w1, gn1⟩ := E.v.ownS hq
          rw [hv] at h2
          cases h2
          exact ⟨b, F1, rfl, kp nj hq hv w1, gn1⟩
    rw [set_self ha] at fin
    exact fin
  · rcases set_own h1 with ⟨rfl, e⟩ | ⟨nj, h1'⟩
    · cases e
      rcases set_own h2 with ⟨rfl, _⟩ | ⟨nk, h2⟩
      · rfl
      · rw [ha] at h3
        cases h3
        rw [w1.uniq w'] at q1
        exact (dj nk h2 h4 (bk nk h2 h4 w2) q q1 q2).elim
    · rcases set_own h2 with ⟨rfl, e⟩ | ⟨nk, h2⟩
      · cases e
        rw [ha] at h4
        cases h4
        rw [w2.uniq w'] at q2
        exact (dj nj h1' h3 (bk nj h1' h3 w1) q q2 q1).elim
      · exact E.v.d j k b1 b2 c1 c2 F1 F2 h1' h2 h3 h4 (bk nj h1' h3 w1) (bk nk h2 h4 w2) q q1 q2
  · have := E.v.t
    match tp, τ, this, gn with
    | none, none, _, _ => trivial
    | some b, some τ, ⟨g, c, s, h⟩, gn => exact ⟨g, c, s, hH b _ (fun z => (gn b z).2 rfl) h⟩
  · rw [E.o i c a F hi ha w p z] at h
    cases h
  · rcases set_own h1 with ⟨rfl, e⟩ | ⟨nj, h1⟩
    · cases e
      rw [ha] at h2
      cases h2
      rw [w1.uniq w'] at hq
      rcases hF q hq with z | z
      · exact E.o _ c a F hi ha w q z
      · exact z.2.2.2
    · exact E.o j c1 b F1 h1 h2 (bk nj h1 h2 w1) q hq
/-- a list or dict of a slot changes -/
theorem EnvS.mut {i : Nat} {a : Addr} {c c' : OC} {o : HO} (E : EnvS W tp0 G0 H0 tp G H σ ρ τ) (hi : ρ[i]? = some (some (PV.ow c))) (ha : σ[i]? = some (some (V.ref a))) (w : OwR W G H a c [a]) (w' : OwR W G (upd H a o) a c' [a]) :
    EnvS W tp0 G0 H0 tp G (upd H a o) σ (ρ.set i (some (.ow c'))) τ :=
  E.mutG hi ha w (fun q u hq h => by rw [upd_ne (fun z => hq (by rw [z]; simp))]; exact h) w' fun q hq => .inl hq
theorem EnvS.getO {i : Nat} {c : OC} (E : EnvS W tp0 G0 H0 tp G H σ ρ τ) (hi : ρ[i]? = some (some (PV.ow c))) : ∃ a F, σ[i]? = some (some (V.ref a)) ∧ OwR W G H a c F := by
  obtain ⟨a, F, h, w, _⟩ := E.v.ownS hi
  exact ⟨a, F, h, w⟩
/-- x.append(e) -/
def dApp (i : Nat) (e : DE) : DS := fun ρ τ => match ρ[i]? with
  | some (some (.ow (.lst xs))) => stE (e ρ τ) ρ fun d τ1 => if xs.length < sizeLine then .ok (.nx (ρ.set i (some (.ow (.lst (xs ++ [d])))))) τ1 else .no
  | _ => .no
theorem ds_app {i : Nat} (he : Dn W Wx te δe) : DnS W Wx (tDrop (tBM W.K "list" rAppend (tVar i) (tCons te tNil))) (dApp i δe) := fun tp0 G0 H0 tp G H σ ρ τ D E P => by
  unfold dApp at P
  split at P
  · rename_i xs hi
    obtain ⟨a, _, ha, rfl, vs, hv, rv⟩ := E.getO hi
    refine ⟨_, ha, .inl ⟨rfl, vs, SqL.of hv⟩, he _ _ _ _ _ _ _ E.v (P.bind E fun d τ1 y G1 H1 E1 e1 r1 P1 => ?_)⟩
    obtain ⟨b, _, hb, rfl, ws, hw, rw'⟩ := E1.getO hi
    rw [ha] at hb
    cases hb
    by_cases hl : xs.length < sizeLine
    · rw [if_pos hl] at P1
      exact ⟨a, ws, y, rfl, rfl, hw, by rw [rw'.length]; exact hl, P1 tp G1 _ σ (Same.refl _) (E1.mut hi ha ⟨rfl, ws, hw, rw'⟩ ⟨rfl, _, upd_same, rw'.append (.cons r1 .nil)⟩)⟩
    · rw [if_neg hl] at P1
      exact P1.elim
  · exact P.elim
/-- x.extend(e) -/
def dExt (i : Nat) (e : DE) : DS := fun ρ τ => match ρ[i]? with
  | some (some (.ow (.lst xs))) => stE (e ρ τ) ρ fun d τ1 => match d with
    | .lst ys => if xs.length + ys.length ≤ sizeLine then .ok (.nx (ρ.set i (some (.ow (.lst (xs ++ ys)))))) τ1 else .no
    | _ => .no
  | _ => .no
theorem ds_ext {i : Nat} (he : Dn W Wx te δe) : DnS W Wx (tDrop (tBM W.K "list" rExtend (tVar i) (tCons te tNil))) (dExt i δe) := fun tp0 G0 H0 tp G H σ ρ τ D E P => by
  unfold dExt at P
  split at P
  · rename_i xs hi
    obtain ⟨a, _, ha, rfl, vs, hv, rv⟩ := E.getO hi
    refine ⟨_, ha, .inl ⟨rfl, vs, SqL.of hv⟩, he _ _ _ _ _ _ _ E.v (P.bind E fun d τ1 y G1 H1 E1 e1 r1 P1 => ?_)⟩
    obtain ⟨b, _, hb, rfl, ws, hw, rw'⟩ := E1.getO hi
    rw [ha] at hb
    cases hb
    cases r1 <;> first | exact P1.elim | skip
    rename_i ys h r
    by_cases hl : xs.length + ys.length ≤ sizeLine
    · simp only [if_pos hl] at P1
      exact ⟨a, _, ws, _, rfl, rfl, hw, E1.v.g _ _ h, by rw [rw'.length, r.length]; exact hl, P1 tp G1 _ σ (Same.refl _) (E1.mut hi ha ⟨rfl, ws, hw, rw'⟩ ⟨rfl, _, upd_same, rw'.append r⟩)⟩
    · simp only [if_neg hl] at P1
      exact P1.elim
  · exact P.elim
/-- x.reverse(), x.clear() -/
def dRevO (i : Nat) : DS := fun ρ τ => match ρ[i]? with
  | some (some (.ow (.lst xs))) => .ok (.nx (ρ.set i (some (.ow (.lst xs.reverse))))) τ
  | _ => .no
theorem ds_rev {i : Nat} : DnS W Wx (tDrop (tBM0 W.K "list" rReverse (tVar i))) (dRevO i) := fun tp0 G0 H0 tp G H σ ρ τ D E P => by
  unfold dRevO at P
  split at P
  · rename_i xs hi
    obtain ⟨a, _, ha, rfl, vs, hv, rv⟩ := E.getO hi
    exact ⟨_, ha, .inl ⟨rfl, vs, SqL.of hv⟩, a, vs, rfl, rfl, hv, P tp G _ σ (Same.refl _) (E.mut hi ha ⟨rfl, vs, hv, rv⟩ ⟨rfl, _, upd_same, rv.reverse⟩)⟩
  · exact P.elim
/-- x[k] = e -/
def dPutL (i : Nat) (k e : DE) : DS := fun ρ τ => stE (e ρ τ) ρ fun d τ1 => match ρ[i]? with
  | some (some (.ow (.lst xs))) => stE (k ρ τ1) ρ fun n τ2 => match n with
    | .int n => match ixN xs.length n with
      | some j => .ok (.nx (ρ.set i (some (.ow (.lst (xs.set j d)))))) τ2
      | none => .no
    | _ => .no
  | _ => .no
theorem ds_putL {i : Nat} {tk : TE} {δk : DE} (hk : Dn W Wx tk δk) (he : Dn W Wx te δe) : DnS W Wx (tAsg te (L2.gSub (tVar i) tk rSetL)) (dPutL i δk δe) := fun tp0 G0 H0 tp G H σ ρ τ D E P =>
  he _ _ _ _ _ _ _ E.v (P.bind E fun d τ1 y G1 H1 E1 e1 r1 P1 => by
    split at P1
    · rename_i xs hi
      obtain ⟨a, _, ha, rfl, vs, hv, rv⟩ := E1.getO hi
      refine ⟨_, ha, hk _ _ _ _ _ _ _ E1.v (P1.bind E1 fun n τ2 z G2 H2 E2 e2 r2 P2 => ?_)⟩
      cases r2 <;> first | exact P2.elim | skip
      rename_i n
      obtain ⟨b, _, hb, rfl, ws, hw, rw'⟩ := E2.getO hi
      rw [ha] at hb
      cases hb
      cases hj : ixN xs.length n with
      | none => simp only [hj] at P2; exact P2.elim
      | some j =>
        simp only [hj] at P2
        exact ⟨a, ws, n, j, rfl, rfl, hw, by rw [rw'.length]; exact hj, P2 tp G2 _ σ (Same.refl _) (E2.mut hi ha ⟨rfl, ws, hw, rw'⟩ ⟨rfl, _, upd_same, RpA.set (Rp.mono e2.g r1) j rw'⟩)⟩
    · exact P1.elim)
/-! an owned thing stays as it is from now on -/
mutual
def otD : OT → DD
  | .fr d => d
  | .nd .lst ts => .lst (otDs ts)
  | .nd (.dK ks) ts => .dic (ks.zip (otDs ts))
  | .nd (.obj C ns) ts => .obj C (ns.zip (otDs ts))
def otDs : List OT → List DD
  | [] => []
  | t :: ts => otD t :: otDs ts
end
def ocD : OC → DD
  | .lst xs => .lst xs
  | .dK xs => .dic xs
  | .tr k ts => otD (.nd k ts)
theorem rpk_zip {K : PySem.W.Frag} {cm : CM} : ∀ {ks : List Key} {vs : List V} {ds : List DD}, RpA K cm G vs ds → RpK K cm G (ks.zip vs) (ks.zip ds)
  | [], _, _, _ => .nil
  | k :: ks, _, _, .nil => .nil
  | k :: ks, _, _, .cons h r => .cons h (rpk_zip r)
theorem rpf_zip {K : PySem.W.Frag} {cm : CM} : ∀ {ks : List Str} {vs : List V} {ds : List DD}, RpA K cm G vs ds → RpF K cm G (ks.zip vs) (ks.zip ds)
  | [], _, _, _ => .nil
  | k :: ks, _, _, .nil => .nil
  | k :: ks, _, _, .cons h r => .cons h (rpf_zip r)
mutual
theorem Ow.rp : ∀ {v : V} {t : OT} {F : List Addr}, Ow W G H v t F → Same G G' → (∀ q ∈ F, G' q = H q) → Rp W.K W.cm G' v (otD t)
  | _, _, _, .fr r, g, _ => by rw [otD]; exact Rp.mono g r
  | _, _, _, .nd (a := a) (k := k) (vs := vs) (ts := ts) h r n, g, e => by
    have ra := OwA.rp r g fun q hq => e q (List.mem_cons_of_mem _ hq)
    have ea := e a List.mem_cons_self
    cases k with
    | lst => rw [otD]; exact .lst (by rw [ea]; exact h) ra
    | dK ks => rw [otD]; exact .dic (by rw [ea]; exact h.2) (rpk_zip ra)
    | obj C ns => rw [otD]; obtain ⟨_, dx, h⟩ := h; exact .obj (by rw [ea]; exact h) (rpf_zip ra)
theorem OwA.rp : ∀ {v : List V} {t : List OT} {F : List Addr}, OwA W G H v t F → Same G G' → (∀ q ∈ F, G' q = H q) → RpA W.K W.cm G' v (otDs t)
  | _, _, _, .nil, _, _ => by rw [otDs]; exact .nil
  | _, _, _, .cons h r n, g, e => by rw [otDs]; exact .cons (Ow.rp h g fun q hq => e q (List.mem_append_left _ hq)) (OwA.rp r g fun q hq => e q (List.mem_append_right _ hq))
end
theorem OwR.rp {a : Addr} {c : OC} {F : List Addr} (w : OwR W G H a c F) (g : Same G G') (e : ∀ q ∈ F, G' q = H q) : Rp W.K W.cm G' (.ref a) (ocD c) := by
  cases c with
  | lst xs => obtain ⟨rfl, vs, h, r⟩ := w; exact .lst (by rw [e a (by simp)]; exact h) (r.mono g)
  | dK xs => obtain ⟨rfl, vs, h, r⟩ := w; exact .dic (by rw [e a (by simp)]; exact h) (r.mono g)
  | tr k ts => exact Ow.rp (show Ow W G H _ _ _ from w) g e
/-- the heap of what stays, with some more -/
def upF (G H : Hp) (F : List Addr) : Hp := fun q => if q ∈ F then H q else G q
theorem upF_in {F : List Addr} : ∀ q ∈ F, upF G H F q = H q := fun q hq => if_pos hq
theorem upF_out {F : List Addr} {q : Addr} (h : q ∉ F) : upF G H F q = G q := if_neg h
theorem upF_same {F : List Addr} (h : ∀ q ∈ F, G q = none) : Same G (upF G H F) := fun q o hq => by
  rw [upF_out (fun z => by rw [h q z] at hq; cases hq)]; exact hq
/-- things that no slot has stay from now on -/
theorem EnvV.freezeF {F : List Addr} (E : EnvV W tp G H σ ρ τ) (g : ∀ q ∈ F, G q = none ∧ tp ≠ some q) (no : ∀ q ∈ F, FreeP W G H σ ρ q) : EnvV W tp (upF G H F) H σ ρ τ := by
  have s1 : Same G (upF G H F) := upF_same fun q hq => (g q hq).1
  refine ⟨fun q u hq => ?_, Paired.mapI E.s fun j v q hv hq' h => ?_, fun i j a b c c' F1 F2 h1 h2 h3 h4 w w' => E.d i j a b c c' F1 F2 h1 h2 h3 h4 (E.back s1 (fun _ _ _ h => h) h1 h3 w) (E.back s1 (fun _ _ _ h => h) h2 h4 w'), ?_⟩
  · by_cases z : q ∈ F
    · rw [upF_in q z] at hq
      exact hq
    · rw [upF_out z] at hq
      exact E.g q u hq
  · match v, q, h with
    | _, none, _ => cases v <;> trivial
    | some v, some (.fr d), h => exact Rp.mono s1 h
    | some v, some (.ow c), ⟨a, F1, r, w, gn⟩ =>
      subst r
      exact ⟨a, F1, rfl, w.keep s1 fun _ _ o h => h, fun q hq => ⟨by rw [upF_out (fun z => no q z j c a F1 hq' hv w hq)]; exact (gn q hq).1, (gn q hq).2⟩⟩
    | some v, some .tape, h => exact h
    | some v, some (.scr ns), ⟨a, r, q⟩ => exact ⟨a, r, s1.seq q⟩
  · have := E.t
    match tp, τ, this, g with
    | none, none, _, _ => trivial
    | some a, some τ, ⟨ga, c, s, h⟩, g => exact ⟨by rw [upF_out (fun z => (g a z).2 rfl)]; exact ga, c, s1 _ _ s, h⟩
def frz (i : Nat) (ρ : PEnv) : PEnv := match ρ[i]? with
  | some (some (.ow c)) => ρ.set i (some (.fr (ocD c)))
  | _ => ρ
def dFrz (i : Nat) (a : DS) : DS := fun ρ τ => a (frz i ρ) τ
theorem EnvV.frzO {i : Nat} {a : Addr} {c : OC} {F : List Addr} (E : EnvV W tp G H σ ρ τ) (hi : ρ[i]? = some (some (PV.ow c))) (ha : σ[i]? = some (some (V.ref a))) (w : OwR W G H a c F) :
    Same G (upF G H F) ∧ EnvV W tp (upF G H F) H σ (ρ.set i (some (.fr (ocD c)))) τ := by
  obtain ⟨F0, w0, gn⟩ := E.own hi ha
  cases w0.uniq w
  have s1 : Same G (upF G H F) := upF_same fun q hq => (gn q hq).1
  -- first the slot is emptied, then the thing stays, then the slot has it again
  have E1 : EnvV W tp G H (σ.set i none) (ρ.set i none) τ := E.setN
  have E2 := E1.freezeF (F := F) gn fun q hq j c' b F1 q1 q2 w1 z => by
    obtain ⟨n1, q1'⟩ := set_get q1 (by simp)
    obtain ⟨n2, q2'⟩ := set_get q2 (by simp)
    exact n1 (E.d j i b a c' c F1 F q1' hi q2' ha w1 w q z hq)
  have E3 := E2.setF (i := i) (w.rp s1 upF_in)
  rw [List.set_set, List.set_set, set_self ha] at E3
  exact ⟨s1, E3⟩
theorem EnvS.frz (E : EnvS W tp0 G0 H0 tp G H σ ρ τ) (i : Nat) : ∃ G', Same G G' ∧ EnvS W tp0 G0 H0 tp G' H σ (Np.frz i ρ) τ := by
  unfold Np.frz
  split
  · rename_i c hi
    obtain ⟨a, F, ha, w⟩ := E.getO hi
    obtain ⟨s, E'⟩ := E.v.frzO hi ha w
    refine ⟨_, s, E', ⟨E.e.g.trans s, E.e.h, fun p n hp hg => ?_⟩, fun j c' b F' q1 q2 w' => ?_, E.t⟩
    · rw [upF_out (fun z => hp (E.o i c a F hi ha w p z))]
      exact E.e.f p n hp hg
    · obtain ⟨n1, q1'⟩ := set_get q1 (by simp)
      exact E.o j c' b F' q1' q2 (E.v.back s (fun _ _ _ h => h) q1' q2 w')
  · exact ⟨G, Same.refl _, E⟩
theorem ds_frz {i : Nat} (h : DnS W Wx t δt) : DnS W Wx t (dFrz i δt) := fun tp0 G0 H0 tp G H σ ρ τ D E P => by
  obtain ⟨G', s, E'⟩ := E.frz i
  exact h _ _ _ _ _ _ _ _ _ _ E' (Ps.shift P s)
end
end Np

set_option Elab.async false
set_option linter.all false
set_option maxRecDepth 100000
set_option maxHeartbeats 4000000
namespace Np
open PySem PySem.Spec PyProof.Rows L2
section
variable {W : Wp} {Wx : L2.St → XK} {tp0 tp tp' : Option Addr} {G0 H0 G H G' H' : Hp} {σ : L2.St} {ρ : PEnv} {τ τ' : TS'} {D : Ends}
variable {te : TE} {δe : DE} {t u : L2.TS} {δt δu : DS} {tc : TT} {δc : DT} {ta : TA} {δa : DA}
/-! ### loops -/
/-- how a turn of a loop ends -/
def turnEnd (r : R Ct) (k : PEnv → TS' → R Ct) : R Ct := match r with
  | .ok (.nx ρ) τ => k ρ τ
  | .ok (.ct ρ) τ => k ρ τ
  | .ok (.bk ρ) τ => .ok (.nx ρ) τ
  | r => r
def forL (g : Tg) (b : DS) : List DD → DS
  | [], ρ, τ => .ok (.nx ρ) τ
  | d :: ds, ρ, τ => match tgF g d ρ with
    | some ρ1 => turnEnd (b ρ1 τ) (forL g b ds)
    | none => .no
def dFor (i : DI) (g : Tg) (b : DS) : DS := fun ρ τ => stE (i ρ τ) ρ fun ds τ1 => forL g b ds ρ τ1
theorem Ps.turn {r : R Ct} {k : PEnv → TS' → R Ct} {N : L2.St → Hp → Prop} (P : Ps W Wx tp0 G0 H0 G D (turnEnd r k))
    (hN : ∀ ρ τ tp' G' H' σ', Same G G' → EnvS W tp0 G0 H0 tp' G' H' σ' ρ τ → Ps W Wx tp0 G0 H0 G' D (k ρ τ) → N σ' H') : Ps W Wx tp0 G0 H0 G { D with nx := N, ct := N, bk := D.nx } r := by
  match r, P with
  | .ok (.nx ρ) τ, P => exact fun tp' G' H' σ' s E => hN ρ τ tp' G' H' σ' s E (Ps.shift P s)
  | .ok (.ct ρ) τ, P => exact fun tp' G' H' σ' s E => hN ρ τ tp' G' H' σ' s E (Ps.shift P s)
  | .ok (.bk ρ) τ, P => exact P
  | .ok (.rt d) τ, P => exact P
  | .ok (.ro d) τ, P => exact P
  | .ok (.xc x ρ) τ, P => exact P
  | .ex x τ, P => exact P.elim
  | .no, P => exact P.elim
theorem ds_for {wi : TI} {δi : DI} {g : Tg} (hi : DnI W Wx wi δi) (hb : DnS W Wx t δt) : DnS W Wx (tFor wi (tgG W.K g) t) (dFor δi g δt) := fun tp0 G0 H0 tp G H σ ρ τ D E P =>
  hi _ _ _ _ _ _ _ E.v (P.bind E fun ds τ1 J G1 H1 E1 e1 it P1 => by
    have w : Walk J ds.length (fun H => Same G1 H) (fun i H x H' => ∀ d Gc, ds[i]? = some d → Same G1 Gc → Same Gc H → ∃ G', Ext none Gc H G' H' ∧ Same G' H' ∧ Rp W.K W.cm G' x d) :=
      ⟨fun i H hi s => it.go i H s hi, fun H s => it.stop H s, fun i H x H' hi s y d Gc hd s1 s2 => it.yld i d Gc H x H' s1 s2 hd y⟩
    refine for_it w (fun i σc Hc => ∃ tpc Gc ρc τc, EnvS W tp0 G0 H0 tpc Gc Hc σc ρc τc ∧ Same G1 Gc ∧ Ps W Wx tp0 G0 H0 Gc D (forL g δt (ds.drop i) ρc τc)) ⟨tp, G1, ρ, τ1, E1, Same.refl _, P1⟩ (fun i σc Hc _ h => ?_) ?_ ?_
    · obtain ⟨tpc, Gc, ρc, τc, Ec, sc, _⟩ := h
      exact sc.trans Ec.v.g
    · rintro i x σc Hc Hc' hi ⟨tpc, Gc, ρc, τc, Ec, sc, Pc⟩ y
      obtain ⟨d, hd⟩ : ∃ d, ds[i]? = some d := ⟨ds[i], List.getElem?_eq_getElem hi⟩
      have hdr : ds.drop i = d :: ds.drop (i + 1) := by
        obtain ⟨h1, h2⟩ := List.getElem?_eq_some_iff.mp hd
        rw [List.drop_eq_getElem_cons h1, h2]
      obtain ⟨Gd, ed, sd, rd⟩ := y d Gc hd sc Ec.v.g
      have Ed := Ec.step ed.weak (Ec.v.grow ed sd)
      rw [hdr, forL] at Pc
      cases hf : tgF g d ρc with
      | none => rw [hf] at Pc; exact Pc.elim
      | some ρ1 =>
        rw [hf] at Pc
        refine tg_run g Ed.v rd hf fun σ2 E2 s2 _ => hb _ _ _ _ _ _ _ _ _ _ (Ed.sub E2 s2) (Ps.turn (Ps.shift Pc ed.g) fun ρ3 τ3 tp3 G3 H3 σ3 s3 E3 P3 => ?_)
        exact ⟨tp3, G3, ρ3, τ3, E3, sc.trans (ed.g.trans s3), P3⟩
    · rintro σc Hc ⟨tpc, Gc, ρc, τc, Ec, sc, Pc⟩
      rw [List.drop_length, forL] at Pc
      exact Pc tpc Gc Hc σc (Same.refl _) Ec)
/-- so many turns at most -/
def whileN (c : DT) (b : DS) : Nat → DS
  | 0, _, _ => .no
  | n + 1, ρ, τ => stE (c ρ τ) ρ fun x τ1 => if x = true then turnEnd (b ρ τ1) (whileN c b n) else .ok (.nx ρ) τ1
def dWhile (n : Nat) (c : DT) (b : DS) : DS := whileN c b n
theorem ds_while {n : Nat} (hc : DnT W Wx tc δc) (hb : DnS W Wx t δt) : DnS W Wx (tWhile tc t) (dWhile n δc δt) := fun tp0 G0 H0 tp G H σ ρ τ D E P => by
  refine ⟨fun m σc Hc => ∃ tpc Gc ρc τc, EnvS W tp0 G0 H0 tpc Gc Hc σc ρc τc ∧ Ps W Wx tp0 G0 H0 Gc D (whileN δc δt m ρc τc), ⟨n, tp, G, ρ, τ, E, P⟩, ?_⟩
  rintro m σc Hc ⟨tpc, Gc, ρc, τc, Ec, Pc⟩
  cases m with
  | zero => exact Pc.elim
  | succ m =>
    rw [whileN] at Pc
    refine hc _ _ _ _ _ _ _ Ec.v (Pc.bind Ec fun b τ1 v G1 H1 E1 e1 r1 P1 => ?_)
    cases r1
    cases b with
    | false => exact iteF (P1 tpc G1 H1 _ (Same.refl _) E1)
    | true =>
      refine iteT ⟨fun σ' H' => ∃ tpc Gc ρc τc, EnvS W tp0 G0 H0 tpc Gc H' σ' ρc τc ∧ Ps W Wx tp0 G0 H0 Gc D (whileN δc δt m ρc τc), fun σ' H' h => ⟨m, Nat.lt_succ_self _, h⟩, ?_⟩
      exact hb _ _ _ _ _ _ _ _ _ _ E1 (Ps.turn P1 fun ρ3 τ3 tp3 G3 H3 σ3 s3 E3 P3 => ⟨tp3, G3, ρ3, τ3, E3, P3⟩)
/-! ### looking at an owned thing -/
def hid : Option PV → Option PV
  | some .tape => none
  | p => p
def bor (i : Nat) (c : OC) (ρ : PEnv) : PEnv := (ρ.map hid).set i (some (.fr (ocD c)))
def flatD : DD → Bool
  | .non => true
  | .bl _ => true
  | .int _ => true
  | .str _ => true
  | _ => false
theorem flatD_any {d : DD} {v : V} (h : flatD d = true) (r : Rp W.K W.cm G v d) (G' : Hp) : Rp W.K W.cm G' v d := by
  cases r <;> first | (cases h; done) | exact .non | exact .bl _ | exact .int _ | exact .str _
theorem Paired.mapR {α β γ : Type} {F : α → β → Prop} {F' : α → γ → Prop} {f : β → γ} : ∀ {xs : List α} {ys : List β}, Paired F xs ys → (∀ x y, F x y → F' x (f y)) → Paired F' xs (ys.map f)
  | _, _, .nil, _ => .nil
  | _, _, .cons h t, k => .cons (k _ _ h) (Paired.mapR t k)
theorem hid_ow {ρ : PEnv} {j : Nat} {c : OC} (h : (ρ.map hid)[j]? = some (some (PV.ow c))) : ρ[j]? = some (some (PV.ow c)) := by
  rw [List.getElem?_map] at h
  obtain ⟨p, h1, h2⟩ := Option.map_eq_some_iff.mp h
  rw [h1]
  cases p with
  | none => cases h2
  | some p => cases p <;> first | (cases h2; done) | (exact congrArg some h2)
theorem EnvV.hide (E : EnvV W tp G H σ ρ τ) : EnvV W none G H σ (ρ.map hid) none := by
  refine ⟨E.g, Paired.mapR E.s fun x y h => ?_, fun i j a b c c' F F' h1 h2 => E.d i j a b c c' F F' (hid_ow h1) (hid_ow h2), trivial⟩
  match x, y, h with
  | _, none, _ => cases x <;> trivial
  | some v, some (.fr d), h => exact h
  | some v, some (.ow c), ⟨a, F, r, w, gn⟩ => exact ⟨a, F, r, w, fun q hq => ⟨(gn q hq).1, by simp⟩⟩
  | some v, some .tape, h => trivial
  | some v, some (.scr ns), h => exact h
theorem borrow {i : Nat} {c : OC} (E : EnvV W tp G H σ ρ τ) (hi : ρ[i]? = some (some (PV.ow c))) : ∃ G1, EnvV W none G1 H σ (bor i c ρ) none := by
  obtain ⟨a, F, h1, w, _⟩ := E.ownS hi
  exact ⟨_, (E.hide.frzO (i := i) (c := c) (by rw [List.getElem?_map, hi]; rfl) h1 w).2⟩
theorem EnvV.after (E : EnvV W tp G H σ ρ τ) (h : ∀ p o, H p = some o → H' p = some o) : Ext tp G H G H' ∧ EnvV W tp G H' σ ρ τ := by
  have e : Ext none G H G H' := ⟨Same.refl _, fun p o _ => h p o, fun _ _ _ q => q⟩
  exact ⟨e.weak, E.grow e fun p o q => h p o (E.g p o q)⟩
/-- e, where an owned slot is looked at: a flat answer -/
def dBor (i : Nat) (e : DE) : DE := fun ρ τ => match ρ[i]? with
  | some (some (.ow c)) => match e (bor i c ρ) none with
    | .ok d _ => if flatD d = true then .ok d τ else .no
    | _ => .no
  | _ => .no
def dBorT (i : Nat) (e : DT) : DT := fun ρ τ => match ρ[i]? with
  | some (some (.ow c)) => match e (bor i c ρ) none with
    | .ok d _ => .ok d τ
    | _ => .no
  | _ => .no
theorem dn_bor {i : Nat} (he : Dn W W0 te δe) : Dn W Wx te (dBor i δe) := fun tp G H σ ρ τ Q E P => by
  unfold dBor at P
  split at P
  · rename_i c hi
    obtain ⟨G1, E1⟩ := borrow E hi
    refine he _ _ _ _ _ _ _ E1 ?_
    split at P
    · rename_i d τ1 h
      rw [h]
      split at P
      · rename_i hf
        intro v G2 H2 e2 E2 r2
        obtain ⟨a1, a2⟩ := E.after fun p o q => e2.h p o (by simp) q
        exact P v G H2 a1 a2 (flatD_any hf r2 G)
      · exact P.elim
    · exact P.elim
  · exact P.elim
theorem dt_bor {i : Nat} (he : DnT W W0 tc δc) : DnT W Wx tc (dBorT i δc) := fun tp G H σ ρ τ Q E P => by
  unfold dBorT at P
  split at P
  · rename_i c hi
    obtain ⟨G1, E1⟩ := borrow E hi
    refine he _ _ _ _ _ _ _ E1 ?_
    split at P
    · rename_i d τ1 h
      rw [h]
      intro v G2 H2 e2 E2 r2
      obtain ⟨a1, a2⟩ := E.after fun p o q => e2.h p o (by simp) q
      exact P v G H2 a1 a2 r2
    · exact P.elim
  · exact P.elim
end
/-! ### calls of defs -/
abbrev Fn := List PV → TS' → R DD
def FnPost (W : Wp) (tp : Option Addr) (G H : Hp) (Q : VK) (E : XK) : R DD → Prop
  | .ok d τ' => ∀ v G' H', Ext tp G H G' H' → Same G' H' → TapeO W G' H' tp τ' → Rp W.K W.cm G' v d → Q v H'
  | .ex x τ' => ∀ d G' H', Ext tp G H G' H' → Same G' H' → TapeO W G' H' tp τ' → ExR W G' H' x d → E (.ref (W.cm x.cls)) d H'
  | .no => False
def spP (W : Wp) (k : Nat) (F : Fn) : Sp := fun vs H Q E => vs.length = k ∧ ∃ tp G as τ, Same G H ∧ Paired (ArgR W tp G) vs as ∧ TapeO W G H tp τ ∧ FnPost W tp G H Q E (F as τ)
def fixT (τ τ' : TS') : TS' := if τ.isNone then none else τ'
def startP (n : Nat) (as : List PV) : PEnv := as.map some ++ List.replicate (n - as.length) none
def bodyF (n : Nat) (δ : DS) : Fn := fun as τ => match δ (startP n as) τ with
  | .ok (.rt d) τ' => .ok d (fixT τ τ')
  | .ok (.nx _) τ' => .ok .non (fixT τ τ')
  | .ok (.xc x _) τ' => .ex x (fixT τ τ')
  | _ => .no
theorem Paired.len {α β : Type} {F : α → β → Prop} : ∀ {xs : List α} {ys : List β}, Paired F xs ys → xs.length = ys.length
  | _, _, .nil => rfl
  | _, _, .cons _ t => congrArg Nat.succ (Paired.len t)
section
variable {W : Wp} {tp : Option Addr} {G H G' H' : Hp} {τ τ' : TS'}
theorem arg_slot {v : V} {p : PV} (h : ArgR W tp G v p) : SlotR W tp G H (some v) (some p) := by
  cases p with
  | fr d => exact h
  | ow c => exact h.elim
  | tape => exact h
  | scr ns => exact h
theorem start_env {N : List Str} {vs : List V} {as : List PV} (s : Same G H) (a : Paired (ArgR W tp G) vs as) (t : TapeO W G H tp τ) : EnvS W tp G H tp G H (L2.start N vs) (startP N.length as) τ := by
  have hnoow : ∀ (j : Nat) (c : OC), (startP N.length as)[j]? ≠ some (some (PV.ow c)) := by
    intro j c h
    unfold startP at h
    have hm := List.mem_of_getElem? h
    rcases List.mem_append.mp hm with q | q
    · obtain ⟨p, hp, e⟩ := List.mem_map.mp q
      cases e
      clear h hm q
      induction a with
      | nil => cases hp
      | cons h t ih =>
        rcases List.mem_cons.mp hp with z | z
        · subst z; exact h
        · exact ih z
    · have := List.eq_of_mem_replicate q
      cases this
  refine ⟨⟨s, ?_, fun i j a b c c' F F' h => (hnoow i c h).elim, t⟩, Ext.refl, fun j c b F h => (hnoow j c h).elim, .inl rfl⟩
  unfold L2.start startP
  rw [Paired.len a]
  have h1 : Paired (SlotR W tp G H) (vs.map some) (as.map some) := by
    clear hnoow
    induction a with
    | nil => exact .nil
    | cons h t ih => exact .cons (arg_slot h) ih
  have h2 : ∀ n, Paired (SlotR W tp G H) (List.replicate n none) (List.replicate n none) := by
    intro n
    induction n with
    | zero => exact .nil
    | succ n ih => exact .cons trivial ih
  have h3 : ∀ {xs xs' : List (Option V)} {ys ys' : List (Option PV)}, Paired (SlotR W tp G H) xs ys → Paired (SlotR W tp G H) xs' ys' → Paired (SlotR W tp G H) (xs ++ xs') (ys ++ ys') := by
    intro xs xs' ys ys' a b
    induction a with
    | nil => exact b
    | cons h t ih => exact .cons h ih
  exact h3 h1 (h2 _)
theorem fix_tape {tp' : Option Addr} (h : TapeO W G H tp τ) (h' : TapeO W G' H' tp' τ') (e : tp' = tp ∨ tp = none) : TapeO W G' H' tp (fixT τ τ') := by
  unfold fixT
  cases τ with
  | none =>
    cases tp with
    | none => trivial
    | some a => exact h.elim
  | some t =>
    rcases e with rfl | rfl
    · exact h'
    · exact h.elim
/-- a def's body keeps the promise -/
theorem body_ok {N : List Str} {k : Nat} {t : L2.TS} {δ : DS} {vs : List V} {Q : VK} {E : XK} (ht : DnS W (fun _ => E) t δ) (h : spP W k (bodyF N.length δ) vs H Q E) : t { nx := fun _ H' => Q .non H', rt := Q } (L2.start N vs) H := by
  obtain ⟨_, tp, G, as, τ, s, a, tt, h⟩ := h
  refine ht _ _ _ _ _ _ _ _ _ _ (start_env (N := N) s a tt) ?_
  unfold bodyF at h
  revert h
  match δ (startP N.length as) τ with
  | .ok (.rt d) τ' => exact fun h v tp' G' H' e s' t' q r => h v G' H' e s' (fix_tape tt t' q) r
  | .ok (.nx ρ) τ' => exact fun h tp' G' H' σ' s' E' => h .non G' H' E'.e E'.v.g (fix_tape tt E'.v.t (E'.t.imp id fun z => z.1)) .non
  | .ok (.xc x ρ) τ' => exact fun h d tp' G' H' σ' s' E' hx => h d G' H' E'.e E'.v.g (fix_tape tt E'.v.t (E'.t.imp id fun z => z.1)) hx
  | .ok (.bk ρ) τ' => exact fun h => h.elim
  | .ok (.ro ρ) τ' => exact fun h => h.elim
  | .ok (.ct ρ) τ' => exact fun h => h.elim
  | .ex x τ' => exact fun h => h.elim
  | .no => exact fun h => h.elim
/-! arguments -/
def dpNil : DPs := fun _ τ => .ok [] τ
def dpCons (a : DP) (r : DPs) : DPs := fun ρ τ => (a ρ τ).bind fun x τ1 => (r ρ τ1).bind fun xs τ2 => .ok (x :: xs) τ2
def dpE (a : DE) : DP := fun ρ τ => (a ρ τ).bind fun x τ1 => .ok (.fr x) τ1
def dpT (i : Nat) : DP := fun ρ τ => match ρ[i]? with
  | some (some .tape) => .ok .tape τ
  | some (some (.scr ns)) => .ok (.scr ns) τ
  | _ => .no
variable {Wx : L2.St → XK} {ta : TE} {tr : TA} {δa : DE} {δp : DP} {δr : DPs}
theorem dp_e (ha : Dn W Wx ta δa) : DnP W Wx ta (dpE δa) := fun tp G H σ ρ τ Q E P =>
  ha _ _ _ _ _ _ _ E (P.bind fun a τ1 x G1 H1 e1 E1 r1 P1 => P1 x G1 H1 Ext.refl E1 r1)
theorem dp_t {i : Nat} : DnP W Wx (tVar i) (dpT i) := fun tp G H σ ρ τ Q E P => by
  unfold dpT at P
  split at P
  · rename_i h
    obtain ⟨x, h1, h2⟩ := Paired.getL E.s h
    cases x with
    | none => exact h2.elim
    | some v => exact ⟨v, h1, P v G H Ext.refl E h2⟩
  · rename_i ns h
    obtain ⟨x, h1, h2⟩ := Paired.getL E.s h
    cases x with
    | none => exact h2.elim
    | some v => exact ⟨v, h1, P v G H Ext.refl E h2⟩
  · exact P.elim
theorem dps_nil : DnPs W Wx tNil dpNil := fun tp G H σ ρ τ Q E P => P [] G H Ext.refl E .nil
theorem ArgR.mono {v : V} {p : PV} (h : ArgR W tp G v p) (s : Same G G') : ArgR W tp G' v p := by
  cases p with
  | fr d => exact Rp.mono s h
  | ow c => exact h
  | tape => exact h
  | scr ns => obtain ⟨a, r, q⟩ := h; exact ⟨a, r, s.seq q⟩
theorem args_mono {vs : List V} {ps : List PV} (h : Paired (ArgR W tp G) vs ps) (s : Same G G') : Paired (ArgR W tp G') vs ps := by
  induction h with
  | nil => exact .nil
  | cons h t ih => exact .cons (h.mono s) ih
theorem dps_cons (ha : DnP W Wx ta δp) (hr : DnPs W Wx tr δr) : DnPs W Wx (tCons ta tr) (dpCons δp δr) := fun tp G H σ ρ τ Q E P =>
  ha _ _ _ _ _ _ _ E (P.bind fun a τ1 x G1 H1 e1 E1 r1 P1 => hr _ _ _ _ _ _ _ E1 (P1.bind fun b τ2 y G2 H2 e2 E2 r2 P2 => P2 _ G2 H2 Ext.refl E2 (.cons (r1.mono e2.g) r2)))
theorem paired_app {α β : Type} {F : α → β → Prop} {xs xs' : List α} {ys ys' : List β} (a : Paired F xs ys) (b : Paired F xs' ys') : Paired F (xs ++ xs') (ys ++ ys') := by
  induction a with
  | nil => exact b
  | cons h t ih => exact .cons h ih
/-- f(x, ..), what it raises leaves -/
def dCallP (k : Nat) (F : Fn) (dv : List PV) (a : DPs) : DE := fun ρ τ => (a ρ τ).bind fun as τ1 => if as.length + dv.length = k then F (as ++ dv) τ1 else .no
def dCallN (k : Nat) (F : Fn) (dv : List PV) (a : DPs) : DE := fun ρ τ => (a ρ τ).bind fun as τ1 => if as.length + dv.length = k then (F (as ++ dv) τ1).nox else .no
theorem FnPost.of {Q : VK} {σ : L2.St} {ρ : PEnv} {r : R DD} (E1 : EnvV W tp G H σ ρ τ) (P : Pg W Wx (rE W) tp σ ρ G H Q r) : FnPost W tp G H Q (Wx σ) r := by
  cases r with
  | ok d τ' => exact fun v G' H' e s t r => P v G' H' e (E1.ext e s t) r
  | ex x τ' => exact fun d G' H' e s t hx => P d G' H' e (E1.ext e s t) hx
  | no => exact P
theorem dn_call {k : Nat} {F : Fn} {dvs : List V} {dv : List PV} (hd : ∀ tp G, Paired (ArgR W tp G) dvs dv) (ha : DnPs W Wx tr δr) : Dn W Wx (tCallE (spP W k F) dvs Wx tr) (dCallP k F dv δr) := fun tp G H σ ρ τ Q E P =>
  ha _ _ _ _ _ _ _ E (P.bind fun as τ1 vs G1 H1 e1 E1 r1 P1 => by
    by_cases h : as.length + dv.length = k
    · rw [if_pos h] at P1
      exact ⟨by rw [List.length_append, Paired.len r1, Paired.len (hd tp G1)]; exact h, tp, G1, _, τ1, E1.g, paired_app r1 (hd tp G1), E1.t, FnPost.of E1 P1⟩
    · rw [if_neg h] at P1
      exact P1.elim)
theorem dn_callN {k : Nat} {F : Fn} {dvs : List V} {dv : List PV} (hd : ∀ tp G, Paired (ArgR W tp G) dvs dv) (ha : DnPs W Wx tr δr) : Dn W Wx (tCallE (spP W k F) dvs W0 tr) (dCallN k F dv δr) := fun tp G H σ ρ τ Q E P =>
  ha _ _ _ _ _ _ _ E (P.bind fun as τ1 vs G1 H1 e1 E1 r1 P1 => by
    by_cases h : as.length + dv.length = k
    · rw [if_pos h] at P1
      refine ⟨by rw [List.length_append, Paired.len r1, Paired.len (hd tp G1)]; exact h, tp, G1, _, τ1, E1.g, paired_app r1 (hd tp G1), E1.t, ?_⟩
      revert P1
      cases F (as ++ dv) τ1 with
      | ok d τ' => exact fun P1 v G' H' e s t r => P1 v G' H' e (E1.ext e s t) r
      | ex x τ' => exact fun P1 => P1.elim
      | no => exact fun P1 => P1.elim
    · rw [if_neg h] at P1
      exact P1.elim)
/-- f(.., k=x ..) -/
def dCallKP (k n m : Nat) (F : Fn) (g : List PV → List PV → List PV) (a b : DPs) : DE := fun ρ τ => (a ρ τ).bind fun as τ1 => (b ρ τ1).bind fun bs τ2 => if as.length = n ∧ bs.length = m ∧ (g as bs).length = k then F (g as bs) τ2 else .no
def dCallKN (k n m : Nat) (F : Fn) (g : List PV → List PV → List PV) (a b : DPs) : DE := fun ρ τ => (a ρ τ).bind fun as τ1 => (b ρ τ1).bind fun bs τ2 => if as.length = n ∧ bs.length = m ∧ (g as bs).length = k then (F (g as bs) τ2).nox else .no
theorem dn_callK {k n m : Nat} {F : Fn} {gV : List V → List V → List V} {g : List PV → List PV → List PV} {tk : TA} {δk : DPs} (hg : ∀ (R : V → PV → Prop) vs as zs bs, Paired R vs as → Paired R zs bs → as.length = n → bs.length = m → Paired R (gV vs zs) (g as bs))
    (ha : DnPs W Wx tr δr) (hk : DnPs W Wx tk δk) : Dn W Wx (tCallKE n m (spP W k F) gV Wx tr tk) (dCallKP k n m F g δr δk) := fun tp G H σ ρ τ Q E P =>
  ha _ _ _ _ _ _ _ E (P.bind fun as τ1 vs G1 H1 e1 E1 r1 P1 => hk _ _ _ _ _ _ _ E1 (P1.bind fun bs τ2 zs G2 H2 e2 E2 r2 P2 => by
    by_cases h : as.length = n ∧ bs.length = m ∧ (g as bs).length = k
    · rw [if_pos h] at P2
      have hp := hg _ vs as zs bs (args_mono r1 e2.g) r2 h.1 h.2.1
      exact ⟨by rw [Paired.len r1]; exact h.1, by rw [Paired.len r2]; exact h.2.1, by rw [Paired.len hp]; exact h.2.2, tp, G2, _, τ2, E2.g, hp, E2.t, FnPost.of E2 P2⟩
    · rw [if_neg h] at P2
      exact P2.elim))
theorem dn_callKN {k n m : Nat} {F : Fn} {gV : List V → List V → List V} {g : List PV → List PV → List PV} {tk : TA} {δk : DPs} (hg : ∀ (R : V → PV → Prop) vs as zs bs, Paired R vs as → Paired R zs bs → as.length = n → bs.length = m → Paired R (gV vs zs) (g as bs))
    (ha : DnPs W Wx tr δr) (hk : DnPs W Wx tk δk) : Dn W Wx (tCallKE n m (spP W k F) gV W0 tr tk) (dCallKN k n m F g δr δk) := fun tp G H σ ρ τ Q E P =>
  ha _ _ _ _ _ _ _ E (P.bind fun as τ1 vs G1 H1 e1 E1 r1 P1 => hk _ _ _ _ _ _ _ E1 (P1.bind fun bs τ2 zs G2 H2 e2 E2 r2 P2 => by
    by_cases h : as.length = n ∧ bs.length = m ∧ (g as bs).length = k
    · rw [if_pos h] at P2
      have hp := hg _ vs as zs bs (args_mono r1 e2.g) r2 h.1 h.2.1
      refine ⟨by rw [Paired.len r1]; exact h.1, by rw [Paired.len r2]; exact h.2.1, by rw [Paired.len hp]; exact h.2.2, tp, G2, _, τ2, E2.g, hp, E2.t, ?_⟩
      revert P2
      cases F (g as bs) τ2 with
      | ok d τ' => exact fun P1 v G' H' e s t r => P1 v G' H' e (E2.ext e s t) r
      | ex x τ' => exact fun P1 => P1.elim
      | no => exact fun P1 => P1.elim
    · rw [if_neg h] at P2
      exact P2.elim))
end
end Np

set_option Elab.async false
set_option linter.all false
set_option maxRecDepth 100000
set_option maxHeartbeats 4000000
namespace Np
open PySem PySem.Spec PyProof.Rows L2
/-! ### the tape as a list -/
def tkL : Tau → Addr → HO := fun τ c => .lst [.ref c, .int τ.at', .int τ.left]
def tauAt (t : Tau) : Int → Option DD
  | 0 => some (.lst (t.cells.map DD.int))
  | 1 => some (.int t.at')
  | 2 => some (.int t.left)
  | _ => none
def tauPut (t : Tau) : Int → Int → Option Tau
  | 1, n => some { t with at' := n }
  | 2, n => some { t with left := n }
  | _, _ => none
def dTp (i : Nat) (k : Int) : DE := fun ρ τ => match ρ[i]?, τ with
  | some (some .tape), some t => R.of (some t) (tauAt t k)
  | _, _ => .no
def dTpPut (i : Nat) (k : Int) (e : DE) : DS := fun ρ τ => stE (e ρ τ) ρ fun d τ1 => match ρ[i]?, τ1, d with
  | some (some .tape), some t, .int n => match tauPut t k n with
    | some t' => .ok (.nx ρ) (some t')
    | none => .no
  | _, _, _ => .no
section
variable {W : Wp} {Wx : L2.St → XK} {tp0 tp tp' : Option Addr} {G0 H0 G H G' H' : Hp} {σ : L2.St} {ρ : PEnv} {τ τ' : TS'} {D : Ends} {te : TE} {δe : DE}
theorem EnvV.getT {i : Nat} {t : Tau} (E : EnvV W tp G H σ ρ (some t)) (hi : ρ[i]? = some (some PV.tape)) : ∃ a c, tp = some a ∧ σ[i]? = some (some (V.ref a)) ∧ G c = some (.lst (t.cells.map V.int)) ∧ H a = some (W.tk t c) ∧ G a = none := by
  obtain ⟨v, h1, h2⟩ := Paired.getL E.s hi
  cases v with
  | none => exact h2.elim
  | some v =>
    obtain ⟨a, rfl, rfl⟩ := h2
    obtain ⟨g, c, hc, h⟩ := E.t
    exact ⟨a, c, rfl, h1, hc, h, g⟩
theorem EnvS.putT {a c : Addr} {t t' : Tau} (E : EnvS W tp0 G0 H0 (some a) G H σ ρ (some t)) (hc : G c = some (.lst (t'.cells.map V.int))) : EnvS W tp0 G0 H0 (some a) G (upd H a (W.tk t' c)) σ ρ (some t') := by
  have g := E.v.tapeF rfl
  have bk : ∀ {i : Nat} {b : Addr} {d : OC} {F : List Addr}, ρ[i]? = some (some (PV.ow d)) → σ[i]? = some (some (V.ref b)) → OwR W G (upd H a (W.tk t' c)) b d F → OwR W G H b d F := fun {i b d F} h1 h2 w => by
    obtain ⟨F1, w1, gn⟩ := E.v.own h1 h2
    have w2 : OwR W G (upd H a (W.tk t' c)) b d F1 := w1.keep (Same.refl _) fun q hq o h => by rw [upd_ne (fun z => (gn q hq).2 (by rw [z]))]; exact h
    rw [w.uniq w2]
    exact w1
  refine ⟨⟨same_mut E.v.g g, Paired.mapI E.v.s fun j v q hv hq h => ?_, fun i j b1 b2 c1 c2 F1 F2 h1 h2 h3 h4 w1 w2 => E.v.d i j b1 b2 c1 c2 F1 F2 h1 h2 h3 h4 (bk h1 h3 w1) (bk h2 h4 w2), g, c, hc, upd_same⟩, ⟨E.e.g, fun p o n h => ?_, E.e.f⟩, fun j c1 b F1 h1 h2 w1 => E.o j c1 b F1 h1 h2 (bk h1 h2 w1), E.t⟩
  · match v, q, h with
    | _, none, _ => cases v <;> trivial
    | some v, some (.fr d), h => exact h
    | some v, some (.ow c), ⟨b, F, r, w, gn⟩ => exact ⟨b, F, r, w.keep (Same.refl _) fun q hq o h => by rw [upd_ne (fun z => (gn q hq).2 (by rw [z]))]; exact h, gn⟩
    | some v, some .tape, h => exact h
    | some v, some (.scr ns), h => exact h
  · have hp : p ≠ a := fun z => by
      subst z
      rcases E.t with q | ⟨_, b, hb, hb0⟩
      · exact n q.symm
      · cases hb; rw [hb0] at h; cases h
    rw [upd_ne hp]
    exact E.e.h p o n h
theorem dn_tp {i : Nat} {k : Int} (hW : W.tk = tkL) : Dn W Wx (tOp (rIxL W.K) (tVar i) (tC (.int k))) (dTp i k) := fun tp G H σ ρ τ Q E P => by
  unfold dTp at P
  split at P
  · rename_i t hi
    obtain ⟨a, c, rfl, ha, hc, h, g⟩ := E.getT hi
    rw [hW] at h
    obtain ⟨d, hd, P1⟩ := P.of
    refine ⟨_, ha, a, [.ref c, .int t.at', .int t.left], k, ?_⟩
    unfold tauAt at hd
    split at hd
    · cases hd
      exact ⟨.ref c, rfl, rfl, SqL.of h, rfl, P1 _ G H Ext.refl E (.lst hc (RpA.ints _))⟩
    · cases hd
      exact ⟨.int t.at', rfl, rfl, SqL.of h, rfl, P1 _ G H Ext.refl E (.int _)⟩
    · cases hd
      exact ⟨.int t.left, rfl, rfl, SqL.of h, rfl, P1 _ G H Ext.refl E (.int _)⟩
    · cases hd
  · exact P.elim
theorem ds_tpPut {i : Nat} {k : Int} (hW : W.tk = tkL) (he : Dn W Wx te δe) : DnS W Wx (tAsg te (L2.gSub (tVar i) (tC (.int k)) rSetL)) (dTpPut i k δe) := fun tp0 G0 H0 tp G H σ ρ τ D E P =>
  he _ _ _ _ _ _ _ E.v (P.bind E fun d τ1 y G1 H1 E1 e1 r1 P1 => by
    split at P1
    · rename_i t n hi
      obtain ⟨a, c, rfl, ha, hc, h, g⟩ := E1.v.getT hi
      rw [hW] at h
      split at P1
      · rename_i t' ht
        unfold tauPut at ht
        split at ht
        · cases ht
          refine ⟨_, ha, a, _, 1, 1, rfl, rfl, h, rfl, ?_⟩
          have := P1 (some a) G1 _ σ (Same.refl _) (E1.putT (t' := { t with at' := n }) (c := c) hc)
          rw [hW] at this
          rw [r1.int_of]
          exact this
        · cases ht
          refine ⟨_, ha, a, _, 2, 2, rfl, rfl, h, rfl, ?_⟩
          have := P1 (some a) G1 _ σ (Same.refl _) (E1.putT (t' := { t with left := n }) (c := c) hc)
          rw [hW] at this
          rw [r1.int_of]
          exact this
        · cases ht
      · exact P1.elim
    · exact P1.elim)
/-! ### the tape is made -/
def cells0 (ns : List Int) : List Int := cutL ns none (some 63)
theorem cells0_eq (ns : List Int) : cutV (ns.map V.int) none (some 63) = (cells0 ns).map V.int := by
  unfold cutV cells0 cutL
  rw [List.length_map, ← List.map_drop, ← List.map_take]
def spTape (W : Wp) : Sp := fun vs H Q _ => ∃ (a : Addr) (ns : List Int), vs = [.ref a] ∧ SqL W.K H a (ns.map V.int) ∧ ∀ c p H', Same H H' → H c = none → H p = none → c ≠ p → H' c = some (.lst ((cells0 ns).map V.int)) → H' p = some (W.tk ⟨cells0 ns, 0, 0⟩ c) → Q (.ref p) H'
def dMkT (i j : Nat) : DS := fun ρ τ => match ρ[j]?, τ with
  | some (some (.scr ns)), none => .ok (.nx (ρ.set i (some .tape))) (some ⟨cells0 ns, 0, 0⟩)
  | _, _ => .no
theorem ds_mkT {i j : Nat} {E' : L2.St → XK} : DnS W Wx (tAsg (tCallE (spTape W) [] E' (tCons (tVar j) tNil)) (gName i)) (dMkT i j) := fun tp0 G0 H0 tp G H σ ρ τ D E P => by
  unfold dMkT at P
  split at P
  · rename_i ns hj
    have htp : tp = none := by
      have := E.v.t
      cases tp with
      | none => rfl
      | some a => exact this.elim
    subst htp
    have htp0 : tp0 = none := by
      rcases E.t with q | ⟨q, _⟩
      · exact q.symm
      · exact q
    subst htp0
    obtain ⟨v, h1, h2⟩ := Paired.getL E.v.s hj
    cases v with
    | none => exact h2.elim
    | some v =>
      obtain ⟨a, rfl, hs⟩ := h2
      refine ⟨_, h1, a, ns, rfl, E.v.g.seq hs, fun c p H' s hc hp ne h3 h4 => ?_⟩
      have gc := E.v.g.free hc
      have gp := E.v.g.free hp
      have s1 : Same G (upd G c (.lst ((cells0 ns).map V.int))) := same_new gc
      have sH : Same (upd G c (.lst ((cells0 ns).map V.int))) H' := fun q u hq => by
        by_cases z : q = c
        · subst z; rw [upd_same] at hq; rw [h3, hq]
        · rw [upd_ne z] at hq; exact s q u (E.v.g q u hq)
      have E1 : EnvV W (some p) (upd G c (.lst ((cells0 ns).map V.int))) H' σ ρ (some ⟨cells0 ns, 0, 0⟩) := by
        refine ⟨sH, Paired.mapI E.v.s fun k v q hv hq h => ?_, fun i j b1 b2 c1 c2 F1 F2 h1 h2 h3 h4 w1 w2 => E.v.d i j b1 b2 c1 c2 F1 F2 h1 h2 h3 h4 (E.v.back s1 (fun q o _ h => s q o h) h1 h3 w1) (E.v.back s1 (fun q o _ h => s q o h) h2 h4 w2), by rw [upd_ne (fun z => ne z.symm)]; exact gp, c, upd_same, h4⟩
        match v, q, h with
        | _, none, _ => cases v <;> trivial
        | some v, some (.fr d), h => exact Rp.mono s1 h
        | some v, some (.ow o), ⟨b, F, r, w, gn⟩ =>
          refine ⟨b, F, r, w.keep s1 fun q _ o h => s q o h, fun q hq => ⟨by rw [upd_ne (fun z => w.at q hq (by rw [z]; exact hc))]; exact (gn q hq).1, fun z => ?_⟩⟩
          cases z
          exact w.at _ hq hp
        | some v, some .tape, ⟨b, z, _⟩ => exact nomatch z
        | some v, some (.scr ns), ⟨b, r, q⟩ => exact ⟨b, r, s1.seq q⟩
      have E2 := E1.setS (i := i) (v := some (.ref p)) (p := some .tape) ⟨p, rfl, rfl⟩ fun _ z => by cases z
      refine P (some p) _ H' _ s1 ⟨E2, ⟨E.e.g.trans s1, fun q o n h => s q o (E.e.h q o n h), fun q n hq hg => ?_⟩, fun k o b F q1 q2 w => ?_, .inr ⟨rfl, p, rfl, E.freeT hp⟩⟩
      · rw [upd_ne (fun z => hq (by rw [z]; exact E.freeT hc))]
        exact E.e.f q n hq hg
      · obtain ⟨x, y⟩ := Sub.set (σ := σ) (ρ := ρ) (i := i) (v := some (V.ref p)) (p := some PV.tape) (fun _ z => by cases z) k o b q1 q2
        exact E.o k o b F x y (E.v.back s1 (fun q o _ h => s q o h) x y w)
  · exact P.elim
/-! ### the law -/
theorem law_ok {N : List Str} {t : L2.TS} {δ : DS} {vs : List V} {Q : VK} {E : XK} (hl : ∀ ns : List Int, ns.length ≤ 63 → ∃ τ, bodyF N.length δ [.scr ns] none = .ok (.bl true) τ) (ht : DnS W (fun _ => E) t δ) (h : spL W.K vs H Q E) : t { nx := fun _ H' => Q .non H', rt := Q } (L2.start N vs) H := by
  obtain ⟨a, ns, rfl, hs, hn, k⟩ := h
  obtain ⟨τ, e⟩ := hl ns hn
  refine body_ok (k := 1) ht ⟨rfl, none, H, [.scr ns], none, Same.refl _, .cons ⟨a, rfl, hs⟩ .nil, trivial, ?_⟩
  rw [e]
  exact fun v G' H' _ _ _ r => by cases r; exact k H'
/-! ### raise -/
def dRaise (cls : Str) (names : List Str) (a : DA) : DS := fun ρ τ => stE (a ρ τ) ρ fun ds τ1 => if ds.length = names.length ∧ ds.length ≤ 1000 then .ok (.xc ⟨cls, (names.zip ds).reverse⟩ ρ) τ1 else .no
theorem RpF.append : ∀ {v v' : List (Str × V)} {d d' : List (Str × DD)}, RpF W.K W.cm G v d → RpF W.K W.cm G v' d' → RpF W.K W.cm G (v ++ v') (d ++ d')
  | _, _, _, _, .nil, s => s
  | _, _, _, _, .cons h r, s => .cons h (RpF.append r s)
theorem RpF.reverse : ∀ {v : List (Str × V)} {d : List (Str × DD)}, RpF W.K W.cm G v d → RpF W.K W.cm G v.reverse d.reverse
  | _, _, .nil => .nil
  | _, _, .cons h r => by
    rw [List.reverse_cons, List.reverse_cons]
    exact (RpF.reverse r).append (.cons h .nil)
theorem RpF.zip : ∀ (ns : List Str) {v : List V} {d : List DD}, RpA W.K W.cm G v d → RpF W.K W.cm G (ns.zip v) (ns.zip d)
  | [], _, _, _ => .nil
  | _ :: _, _, _, .nil => .nil
  | n :: ns, _, _, .cons h r => .cons h (RpF.zip ns r)
theorem ds_raise {ta : TA} {δa : DA} {cls : Str} {C : Addr} {names : List Str} (hC : W.cm cls = C) (ha : DnA W Wx ta δa) : DnS W Wx (fun _ σ H => tMkO C (spInit C names) [] ta σ H fun cls d H' => Wx σ cls d H') (dRaise cls names δa) := fun tp0 G0 H0 tp G H σ ρ τ D E P =>
  ha _ _ _ _ _ _ _ E.v (P.bind E fun ds τ1 vs G1 H1 E1 e1 r1 P1 => by
    by_cases h : ds.length = names.length ∧ ds.length ≤ 1000
    · rw [if_pos h] at P1
      refine mk_tail (by rw [r1.length]; exact h.1) (by rw [r1.length]; exact h.2) fun d nd => ?_
      rw [← hC]
      exact P1 d tp (upd G1 d (.xd (names.zip vs).reverse)) _ σ (same_new (E1.v.g.free nd)) (E1.step (Ext.new nd E1.v.g) (E1.v.new nd)) ⟨_, upd_same, ((RpF.zip names r1).reverse).mono (same_new (E1.v.g.free nd))⟩
    · rw [if_neg h] at P1
      exact P1.elim)
end
end Np

set_option Elab.async false
set_option linter.all false
set_option maxRecDepth 100000
set_option maxHeartbeats 4000000
namespace Np
open PySem PySem.Spec PyProof.Rows L2
section
variable {W : Wp} {Wx : L2.St → XK} {tp0 tp tp' : Option Addr} {G0 H0 G H G' H' : Hp} {σ : L2.St} {ρ : PEnv} {τ τ' : TS'} {D : Ends} {te ta tb : TE} {δe δa δb : DE} {tr : TA} {δr : DA}
def gNeg : DD → Option DD
  | .int i => some (.int (-i))
  | _ => none
theorem ud_neg : UnD W (rU fun i => .int (-i)) gNeg := by
  intro G H x a c Q s ra e k
  cases a <;> first | (cases e; done) | skip
  cases e
  exact ⟨_, ra.int_of, k _ G H ext_n s (.int _)⟩
def dNever : DS := fun _ _ => .no
theorem ds_never : DnS W Wx tNever dNever := fun _ _ _ _ _ _ _ _ _ _ _ P => P
/-! new lists for a slot's own -/
def dListF (a : DA) : PEnv → TS' → R OC := fun ρ τ => (a ρ τ).bind fun x τ1 => match x with
  | [d] => match items? d with
    | some ds => .ok (.lst ds) τ1
    | none => .no
  | _ => .no
theorem df_list (ha : DnA W Wx tr δr) : DnF W Wx (tCB (rListK W.K) tr) (dListF δr) := fun tp G H σ ρ τ Q E P =>
  ha _ _ _ _ _ _ _ E (P.bind fun a τ1 x G1 H1 e1 E1 r1 P1 => by
    split at P1
    · rename_i d
      cases r1 with | cons r rs =>
      cases rs
      cases r <;> first | exact P1.elim | skip
      · rename_i h r
        exact ⟨_, _, rfl, .inl (SqL.of (E1.g _ _ h)), fun p n => P1 p [p] G1 _ (Ext.newH n) (E1.newH n) ⟨rfl, _, upd_same, r⟩ (fr1 n (E1.g.free n) (E1.noT n))⟩
      · rename_i h r
        exact ⟨_, _, rfl, .inr (SqT.of (E1.g _ _ h)), fun p n => P1 p [p] G1 _ (Ext.newH n) (E1.newH n) ⟨rfl, _, upd_same, r⟩ (fr1 n (E1.g.free n) (E1.noT n))⟩
    · exact P1.elim)
/-- an operator that makes a new list -/
def OpF (W : Wp) (r : R2) (g : DD → DD → Option DD) : Prop := ∀ (G H : Hp) (x y : V) (a b : DD) (cs : List DD) (Q : VK), Same G H → Rp W.K W.cm G x a → Rp W.K W.cm G y b → g a b = some (.lst cs) →
  (∀ p vs, H p = none → RpA W.K W.cm G vs cs → Q (.ref p) (upd H p (.lst vs))) → r x y H Q
def dOpF (g : DD → DD → Option DD) (a b : DE) : PEnv → TS' → R OC := fun ρ τ => (a ρ τ).bind fun x τ1 => (b ρ τ1).bind fun y τ2 => match g x y with
  | some (.lst cs) => .ok (.lst cs) τ2
  | _ => .no
theorem PgF.mono {Q Q' : VK} {r : R OC} (P : PgF W Wx tp σ ρ G H Q r) (k : ∀ p H', H p = none → Q (.ref p) H' → Q' (.ref p) H') : PgF W Wx tp σ ρ G H Q' r := by
  cases r with
  | ok c τ => exact fun p F G' H' e E w fr => k p H' (fr p w.mem).1 (P p F G' H' e E w fr)
  | ex x τ => exact P
  | no => exact P
theorem df_op {r : R2} {g : DD → DD → Option DD} (ho : OpF W r g) (ha : Dn W Wx ta δa) (hb : Dn W Wx tb δb) : DnF W Wx (tOp r ta tb) (dOpF g δa δb) := fun tp G H σ ρ τ Q E P =>
  ha _ _ _ _ _ _ _ E (P.bind fun a τ1 x G1 H1 e1 E1 r1 P1 => hb _ _ _ _ _ _ _ E1 (P1.bind fun b τ2 y G2 H2 e2 E2 r2 P2 => by
    split at P2
    · rename_i cs hg
      exact ho G2 H2 x y a b cs Q E2.g (Rp.mono e2.g r1) r2 hg fun p vs n rv => P2 p [p] G2 _ (Ext.newH n) (E2.newH n) ⟨rfl, _, upd_same, rv⟩ (fr1 n (E2.g.free n) (E2.noT n))
    · exact P2.elim))
theorem of_cat : OpF W rCat gCat := by
  intro G H x y a b cs Q s ra rb e k
  cases ra <;> first | (cases e; done) | skip
  cases rb <;> first | (cases e; done) | skip
  rename_i p xs ds h r q ys es h' r'
  obtain ⟨hz, e2⟩ := ifs (show (if ds.length + es.length ≤ sizeLine then some (DD.lst (ds ++ es)) else none) = _ from e)
  cases e2
  exact ⟨p, q, xs, ys, rfl, rfl, s _ _ h, s _ _ h', by rw [r.length, r'.length]; exact hz, fun p n => k p _ n (r.append r')⟩
theorem of_rep : OpF W rRep gRep := by
  intro G H x y a b cs Q s ra rb e k
  cases ra <;> first | (cases e; done) | skip
  cases rb <;> first | (cases e; done) | skip
  rename_i p xs ds h r n
  obtain ⟨hz, e2⟩ := ifs (show (if -(2 ^ 63) ≤ n ∧ n < 2 ^ 63 ∧ ds.length * n.toNat ≤ sizeLine then some (DD.lst (List.replicate n.toNat ds).flatten) else none) = _ from e)
  cases e2
  exact ⟨p, n, xs, rfl, rfl, s _ _ h, hz.1, hz.2.1, by rw [r.length]; exact hz.2.2, fun p q => k p _ q (r.rep _)⟩
/-! a, b = x, y with new lists -/
/-- a new thing that no slot has yet -/
structure Held (W : Wp) (tp : Option Addr) (G H : Hp) (σ : L2.St) (ρ : PEnv) (p : Addr) (c : OC) (F : List Addr) : Prop where
  w : OwR W G H p c F
  fr : ∀ q ∈ F, G q = none ∧ tp ≠ some q
  no : ∀ q ∈ F, FreeP W G H σ ρ q
theorem Held.ext {p : Addr} {c : OC} {F : List Addr} (h : Held W tp G H σ ρ p c F) (E : EnvV W tp G H σ ρ τ) (e : Ext tp G H G' H') : Held W tp G' H' σ ρ p c F :=
  ⟨h.w.keep e.g fun q hq o => e.h q o (h.fr q hq).2, fun q hq => ⟨e.f q (h.fr q hq).2 (h.w.at q hq) (h.fr q hq).1, (h.fr q hq).2⟩, fun q hq => (h.no q hq).ext E e⟩
theorem EnvS.setH {i : Nat} {p : Addr} {c : OC} {F : List Addr} (E : EnvS W tp0 G0 H0 tp G H σ ρ τ) (h : Held W tp G H σ ρ p c F) (n0 : ∀ q ∈ F, H0 q = none) : EnvS W tp0 G0 H0 tp G H (σ.set i (some (.ref p))) (ρ.set i (some (.ow c))) τ := E.setO h.w h.fr h.no n0
variable {φ ψ : PEnv → TS' → R OC}
theorem dnF_run (he : DnF W Wx te φ) (E : EnvS W tp0 G0 H0 tp G H σ ρ τ) {f : OC → TS' → R Ct} {Q : VK} (P : Ps W Wx tp0 G0 H0 G D (stE (φ ρ τ) ρ f))
    (k : ∀ c τ1 p F G1 H1, EnvS W tp0 G0 H0 tp G1 H1 σ ρ τ1 → Ext tp G H G1 H1 → Held W tp G1 H1 σ ρ p c F → (∀ q ∈ F, H q = none ∧ H0 q = none) → Ps W Wx tp0 G0 H0 G1 D (f c τ1) → Q (.ref p) H1) : te σ H Q := by
  refine he _ _ _ _ _ _ _ E.v ?_
  cases h : φ ρ τ with
  | no => rw [h] at P; exact P.elim
  | ex x τ1 => rw [h] at P; exact fun d G1 H1 e1 E1 hx => P d tp G1 H1 σ e1.g (E.step e1 E1) hx
  | ok c τ1 =>
    rw [h] at P
    exact fun p F G1 H1 e1 E1 w fr => k c τ1 p F G1 H1 (E.step e1 E1) e1 ⟨w, fun q hq => (fr q hq).2, fun q hq => (E.v.noO (fr q hq).1).ext E.v e1⟩ (fun q hq => ⟨(fr q hq).1, E.freeT (fr q hq).1⟩) (Ps.shift (r := f c τ1) P e1.g)
def dParOO (i j : Nat) (a b : PEnv → TS' → R OC) : DS := fun ρ τ => stE (a ρ τ) ρ fun x τ1 => stE (b ρ τ1) ρ fun y τ2 => .ok (.nx ((ρ.set i (some (.ow x))).set j (some (.ow y)))) τ2
theorem ds_parOO {i j : Nat} (ha : DnF W Wx ta φ) (hb : DnF W Wx tb ψ) : DnS W Wx (tPar i j (tCons ta (tCons tb tNil))) (dParOO i j φ ψ) := fun tp0 G0 H0 tp G H σ ρ τ D E P =>
  dnF_run ha E P fun c τ1 p F G1 H1 E1 e1 h1 n1 P1 => dnF_run hb E1 P1 fun c' τ2 q F' G2 H2 E2 e2 h2 n2 P2 => by
    have h1' := h1.ext E1.v e2
    have E3 := E2.setH (i := i) h1' fun q hq => (n1 q hq).2
    refine ⟨_, _, rfl, P2 tp G2 H2 _ (Same.refl _) (E3.setH (i := j) ⟨h2.w, h2.fr, fun r hr k d b F1 a1 a2 w z => ?_⟩ fun q hq => (n2 q hq).2)⟩
    rcases set_own a1 with ⟨rfl, e⟩ | ⟨nk, a1⟩
    · cases e
      rcases set_own a2 with ⟨_, e⟩ | ⟨nk, _⟩
      · cases e
        rw [w.uniq h1'.w] at z
        exact h1.w.at r z (n2 r hr).1
      · exact nk rfl
    · rw [List.getElem?_set_ne (fun z => nk z.symm)] at a2
      exact h2.no r hr k d b F1 a1 a2 w z
def dParOF (i j : Nat) (a : PEnv → TS' → R OC) (b : DE) : DS := fun ρ τ => stE (a ρ τ) ρ fun x τ1 => stE (b ρ τ1) ρ fun y τ2 => .ok (.nx ((ρ.set i (some (.ow x))).set j (some (.fr y)))) τ2
theorem ds_parOF {i j : Nat} (ha : DnF W Wx ta φ) (hb : Dn W Wx tb δb) : DnS W Wx (tPar i j (tCons ta (tCons tb tNil))) (dParOF i j φ δb) := fun tp0 G0 H0 tp G H σ ρ τ D E P =>
  dnF_run ha E P fun c τ1 p F G1 H1 E1 e1 h1 n1 P1 => hb _ _ _ _ _ _ _ E1.v (P1.bind E1 fun d τ2 v G2 H2 E2 e2 r2 P2 =>
    ⟨_, _, rfl, P2 tp G2 H2 _ (Same.refl _) ((E2.setH (i := i) (h1.ext E1.v e2) fun q hq => (n1 q hq).2).setF r2)⟩)
def dParFO (i j : Nat) (a : DE) (b : PEnv → TS' → R OC) : DS := fun ρ τ => stE (a ρ τ) ρ fun x τ1 => stE (b ρ τ1) ρ fun y τ2 => .ok (.nx ((ρ.set i (some (.fr x))).set j (some (.ow y)))) τ2
theorem ds_parFO {i j : Nat} (ha : Dn W Wx ta δa) (hb : DnF W Wx tb ψ) : DnS W Wx (tPar i j (tCons ta (tCons tb tNil))) (dParFO i j δa ψ) := fun tp0 G0 H0 tp G H σ ρ τ D E P =>
  ha _ _ _ _ _ _ _ E.v (P.bind E fun d τ1 v G1 H1 E1 e1 r1 P1 => dnF_run hb E1 P1 fun c τ2 p F G2 H2 E2 e2 h2 n2 P2 => by
    refine ⟨_, _, rfl, P2 tp G2 H2 _ (Same.refl _) ((E2.setF (i := i) (r1.mono e2.g)).setH (i := j) ⟨h2.w, h2.fr, fun r hr k c' b F1 a1 a2 w => ?_⟩ fun q hq => (n2 q hq).2)⟩
    obtain ⟨x1, x2⟩ := Sub.set (σ := σ) (ρ := ρ) (i := i) (v := some v) (p := some (PV.fr d)) (fun _ z => by cases z) k c' b a1 a2
    exact h2.no r hr k c' b F1 x1 x2 w)
end
end Np

set_option Elab.async false
set_option linter.all false
set_option maxRecDepth 100000
set_option maxHeartbeats 4000000
namespace Np
open PySem PySem.Spec PyProof.Rows L2
theorem un65 {k : Nat} {A : Around} (hr : Room k A) : A.units + 65 < cLine := by have := hr.un; omega
theorem op_inDK {X : Cx} (K : PySem.W.Frag) (hu : X.A.units + 65 < cLine) (h : X.K = K := by rfl) : OpR X (compareOp .In) (rInD K) := by subst h; exact op_inD hu
theorem op_notInDK {X : Cx} (K : PySem.W.Frag) (hu : X.A.units + 65 < cLine) (h : X.K = K := by rfl) : OpR X (compareOp .NotIn) (rNotInD K) := by subst h; exact op_notInD hu
theorem hu_of' {k : Nat} {A : Around} (hr : Room k A) : A.units + 1 < cLine := by have := hr.un; omega
section
variable {W : Wp} {Wx : L2.St → XK} {tp0 tp tp' : Option Addr} {G0 H0 G H G' H' : Hp} {σ : L2.St} {ρ : PEnv} {τ τ' : TS'} {D : Ends} {te ta tb tc : TE} {δe δa δb δc : DE} {tr : TA} {δr : DA} {φ ψ : PEnv → TS' → R OC} {t : L2.TS} {δ : DS}
/-! ### the tape as a dict -/
def tkD : Tau → Addr → HO := fun τ c => .dK [(.inr "cells", .ref c), (.inr "at", .int τ.at'), (.inr "left", .int τ.left)]
inductive Pk where
  | cells | at' | left
def Pk.str : Pk → Str
  | .cells => "cells"
  | .at' => "at"
  | .left => "left"
def tauGet (t : Tau) : Pk → DD
  | .cells => .lst (t.cells.map DD.int)
  | .at' => .int t.at'
  | .left => .int t.left
def tauSet (t : Tau) : Pk → Int → Option Tau
  | .cells, _ => none
  | .at', n => some { t with at' := n }
  | .left, n => some { t with left := n }
def dTd (i : Nat) (k : Pk) : DE := fun ρ τ => match ρ[i]?, τ with
  | some (some .tape), some t => .ok (tauGet t k) (some t)
  | _, _ => .no
theorem dn_td {i : Nat} {k : Pk} (hW : W.tk = tkD) : Dn W Wx (tDGet (tVar i) (tC (.str k.str))) (dTd i k) := fun tp G H σ ρ τ Q E P => by
  unfold dTd at P
  split at P
  · rename_i t hi
    obtain ⟨a, c, rfl, ha, hc, h, g⟩ := E.getT hi
    rw [hW] at h
    have h' : H a = some (.dK [(.inr "cells", .ref c), (.inr "at", .int t.at'), (.inr "left", .int t.left)]) := h
    cases k with
    | cells => exact ⟨_, ha, a, .ref c, rfl, DGet.k (k := .inr "cells") h', P _ G H Ext.refl E (.lst hc (RpA.ints _))⟩
    | at' => exact ⟨_, ha, a, .int t.at', rfl, DGet.k (k := .inr "at") h', P _ G H Ext.refl E (.int _)⟩
    | left => exact ⟨_, ha, a, .int t.left, rfl, DGet.k (k := .inr "left") h', P _ G H Ext.refl E (.int _)⟩
  · exact P.elim
def dTdPut (i : Nat) (k : Pk) (e : DE) : DS := fun ρ τ => stE (e ρ τ) ρ fun d τ1 => match ρ[i]?, τ1, d with
  | some (some .tape), some t, .int n => match tauSet t k n with
    | some t' => .ok (.nx ρ) (some t')
    | none => .no
  | _, _, _ => .no
theorem ds_tdPut {i : Nat} {k : Pk} (hW : W.tk = tkD) (he : Dn W Wx te δe) : DnS W Wx (sDPut (tVar i) (tC (.str k.str)) te) (dTdPut i k δe) := fun tp0 G0 H0 tp G H σ ρ τ D E P =>
  he _ _ _ _ _ _ _ E.v (P.bind E fun d τ1 y G1 H1 E1 e1 r1 P1 => by
    split at P1
    · rename_i t n hi
      obtain ⟨a, c, rfl, ha, hc, h, g⟩ := E1.v.getT hi
      rw [hW] at h
      have h' : H1 a = some (.dK [(.inr "cells", .ref c), (.inr "at", .int t.at'), (.inr "left", .int t.left)]) := h
      cases k with
      | cells => exact P1.elim
      | at' =>
        have q := P1 (some a) G1 _ σ (Same.refl _) (E1.putT (t' := { t with at' := n }) (c := c) hc)
        rw [hW] at q
        refine ⟨_, ha, a, _, rfl, ?_, q⟩
        rw [r1.int_of]
        exact DPut.k (k := .inr "at") (v := .int n) h' (by show 3 < sizeLine; decide)
      | left =>
        have q := P1 (some a) G1 _ σ (Same.refl _) (E1.putT (t' := { t with left := n }) (c := c) hc)
        rw [hW] at q
        refine ⟨_, ha, a, _, rfl, ?_, q⟩
        rw [r1.int_of]
        exact DPut.k (k := .inr "left") (v := .int n) h' (by show 3 < sizeLine; decide)
    · exact P1.elim)
/-! ### list(range(..)) -/
def rgOk (a b : Int) : Prop := -(2 ^ 62) ≤ a ∧ a < 2 ^ 62 ∧ -(2 ^ 62) ≤ b ∧ b < 2 ^ 62 ∧ (b - a).toNat ≤ 2 ^ 24
instance (a b : Int) : Decidable (rgOk a b) := by unfold rgOk; infer_instance
theorem RpA.rg (a b : Int) : RpA W.K W.cm G (rgV a b) (rangeD a (b - a).toNat) := by
  unfold rgV rangeD
  generalize (List.range (b - a).toNat) = l
  induction l with
  | nil => exact .nil
  | cons x l ih => exact .cons (.int _) ih
abbrev gRgL := oInt fun a b => if rgOk a b then some (.lst (rangeD a (b - a).toNat)) else none
def gRgL1 : DD → Option DD
  | .int b => if rgOk 0 b then some (.lst (rangeD 0 (b - 0).toNat)) else none
  | _ => none
theorem dn_listRg2 (ha : Dn W Wx ta δa) (hb : Dn W Wx tb δb) : Dn W Wx (tLstRg (tRg2 ta tb)) (dOp gRgL δa δb) := fun tp G H σ ρ τ Q E P =>
  ha _ _ _ _ _ _ _ E (P.bind fun a τ1 x G1 H1 e1 E1 r1 P1 => hb _ _ _ _ _ _ _ E1 (P1.bind fun b τ2 y G2 H2 e2 E2 r2 P2 => by
    obtain ⟨c, hc, P3⟩ := P2.of
    cases a <;> cases b <;> first | (cases hc; done) | skip
    rename_i i j
    obtain ⟨hz, rfl⟩ := ifs (show (if rgOk i j then some (DD.lst (rangeD i (j - i).toNat)) else none) = some c from hc)
    exact ⟨i, j, r1.int_of, r2.int_of, hz, fun q n => P3 _ _ _ (Ext.new n E2.g) (E2.new n) (rp_newL (E2.g.free n) (RpA.rg i j))⟩))
theorem dn_listRg1 (ha : Dn W Wx ta δa) : Dn W Wx (tLstRg (tRg1 ta)) (dUn gRgL1 δa) := fun tp G H σ ρ τ Q E P =>
  ha _ _ _ _ _ _ _ E (P.bind fun a τ1 x G1 H1 e1 E1 r1 P1 => by
    obtain ⟨c, hc, P3⟩ := P1.of
    cases a <;> first | (cases hc; done) | skip
    rename_i j
    obtain ⟨hz, rfl⟩ := ifs (show (if rgOk 0 j then some (DD.lst (rangeD 0 (j - 0).toNat)) else none) = some c from hc)
    exact ⟨j, r1.int_of, hz, fun q n => P3 _ _ _ (Ext.new n E1.g) (E1.new n) (rp_newL (E1.g.free n) (RpA.rg 0 j))⟩)
/-! ### repr of data -/
def gRepr (d : DD) : Option DD := match toPy d, items? d with
  | some p, some _ => if PyData.showable p = true ∧ SeqAt.shaped p = true ∧ p.shown.length ≤ sizeLine then some (.str p.shown) else none
  | _, _ => none
theorem cd_repr : CallD W (rReprD W.K) (c1 gRepr) := by
  intro G H x a c Q s ra e k
  replace e := c1_eq e
  obtain ⟨d, rfl, e⟩ := e
  cases ra with | cons r rs =>
  cases rs
  unfold gRepr at e
  split at e
  · rename_i p l h1 h2
    obtain ⟨h, rfl⟩ := ifs e
    have dp := (r.mono s).dp h1
    cases r <;> first | (cases h2; done) | skip
    · exact ⟨_, p, rfl, dp, h.1, h.2.1, h.2.2, k _ G H ext_n s (.str _)⟩
    · exact ⟨_, p, rfl, dp, h.1, h.2.1, h.2.2, k _ G H ext_n s (.str _)⟩
  · cases e
/-! ### defs that return a new thing -/
abbrev FnO := List PV → TS' → R OC
def FnPostO (W : Wp) (tp : Option Addr) (G H : Hp) (Q : VK) (E : XK) : R OC → Prop
  | .ok c τ' => ∀ p F G' H', Ext tp G H G' H' → Same G' H' → TapeO W G' H' tp τ' → OwR W G' H' p c F → (∀ q ∈ F, H q = none ∧ G' q = none ∧ tp ≠ some q) → Q (.ref p) H'
  | .ex x τ' => ∀ d G' H', Ext tp G H G' H' → Same G' H' → TapeO W G' H' tp τ' → ExR W G' H' x d → E (.ref (W.cm x.cls)) d H'
  | .no => False
def spO (W : Wp) (k : Nat) (F : FnO) : Sp := fun vs H Q E => vs.length = k ∧ ∃ tp G as τ, Same G H ∧ Paired (ArgR W tp G) vs as ∧ TapeO W G H tp τ ∧ FnPostO W tp G H Q E (F as τ)
def bodyO (n : Nat) (δ : DS) : FnO := fun as τ => match δ (startP n as) τ with
  | .ok (.ro c) τ' => .ok c (fixT τ τ')
  | .ok (.xc x _) τ' => .ex x (fixT τ τ')
  | _ => .no
theorem body_okO {N : List Str} {k : Nat} {vs : List V} {Q : VK} {E : XK} (ht : DnS W (fun _ => E) t δ) (h : spO W k (bodyO N.length δ) vs H Q E) : t { nx := fun _ H' => Q .non H', rt := Q } (L2.start N vs) H := by
  obtain ⟨_, tp, G, as, τ, s, a, tt, h⟩ := h
  refine ht _ _ _ _ _ _ _ _ _ _ (start_env (N := N) s a tt) ?_
  unfold bodyO at h
  revert h
  match δ (startP N.length as) τ with
  | .ok (.ro c) τ' => exact fun h p F tp' G' H' e s' t' q w fr => h p F G' H' e s' (fix_tape tt t' q) w fun r hr => ⟨(fr r hr).1, (fr r hr).2.1, by rcases q with q | q; exact q ▸ (fr r hr).2.2; rw [q]; simp⟩
  | .ok (.xc x ρ) τ' => exact fun h d tp' G' H' σ' s' E' hx => h d G' H' E'.e E'.v.g (fix_tape tt E'.v.t (E'.t.imp id fun z => z.1)) hx
  | .ok (.nx ρ) τ' => exact fun h => h.elim
  | .ok (.rt d) τ' => exact fun h => h.elim
  | .ok (.bk ρ) τ' => exact fun h => h.elim
  | .ok (.ct ρ) τ' => exact fun h => h.elim
  | .ex x τ' => exact fun h => h.elim
  | .no => exact fun h => h.elim
def dRetO (i : Nat) : DS := fun ρ τ => match ρ[i]? with
  | some (some (.ow c)) => .ok (.ro c) τ
  | _ => .no
theorem ds_retO {i : Nat} : DnS W Wx (tRet (tVar i)) (dRetO i) := fun tp0 G0 H0 tp G H σ ρ τ D E P => by
  unfold dRetO at P
  split at P
  · rename_i c hi
    obtain ⟨a, F, h1, w, gn⟩ := E.v.ownS hi
    exact ⟨_, h1, P a F tp G H E.e E.v.g E.v.t (E.t.imp id fun z => z.1) w fun q hq => ⟨E.o i c a F hi h1 w q hq, gn q hq⟩⟩
  · exact P.elim
def dRetF (φ : PEnv → TS' → R OC) : DS := fun ρ τ => stE (φ ρ τ) ρ fun c τ1 => .ok (.ro c) τ1
theorem ds_retF (he : DnF W Wx te φ) : DnS W Wx (tRet te) (dRetF φ) := fun tp0 G0 H0 tp G H σ ρ τ D E P =>
  dnF_run he E P fun c τ1 p F G1 H1 E1 e1 h n P1 => P1 p F tp G1 H1 E1.e E1.v.g E1.v.t (E1.t.imp id fun z => z.1) h.w fun q hq => ⟨(n q hq).2, h.fr q hq⟩
variable {Tr : TA} {δp δk : DPs} {k : Nat} {F : FnO} {dvs : List V} {dv : List PV}
def dCallOP (k : Nat) (F : FnO) (dv : List PV) (a : DPs) : PEnv → TS' → R OC := fun ρ τ => (a ρ τ).bind fun as τ1 => if as.length + dv.length = k then F (as ++ dv) τ1 else .no
def dCallON (k : Nat) (F : FnO) (dv : List PV) (a : DPs) : PEnv → TS' → R OC := fun ρ τ => (a ρ τ).bind fun as τ1 => if as.length + dv.length = k then (F (as ++ dv) τ1).nox else .no
theorem FnPostO.of {Q : VK} {r : R OC} (E1 : EnvV W tp G H σ ρ τ) (P : PgF W Wx tp σ ρ G H Q r) : FnPostO W tp G H Q (Wx σ) r := by
  cases r with
  | ok c τ' => exact fun p F G' H' e s t w fr => P p F G' H' e (E1.ext e s t) w fr
  | ex x τ' => exact fun d G' H' e s t hx => P d G' H' e (E1.ext e s t) hx
  | no => exact P
theorem df_callP (hd : ∀ tp G, Paired (ArgR W tp G) dvs dv) (ha : DnPs W Wx Tr δp) : DnF W Wx (tCallE (spO W k F) dvs Wx Tr) (dCallOP k F dv δp) := fun tp G H σ ρ τ Q E P =>
  ha _ _ _ _ _ _ _ E (P.bind fun as τ1 vs G1 H1 e1 E1 r1 P1 => by
    by_cases h : as.length + dv.length = k
    · rw [if_pos h] at P1
      refine ⟨by rw [List.length_append, Paired.len r1, Paired.len (hd tp G1)]; exact h, tp, G1, _, τ1, E1.g, paired_app r1 (hd tp G1), E1.t, ?_⟩
      exact FnPostO.of E1 P1
    · rw [if_neg h] at P1
      exact P1.elim)
theorem df_callN (hd : ∀ tp G, Paired (ArgR W tp G) dvs dv) (ha : DnPs W Wx Tr δp) : DnF W Wx (tCallE (spO W k F) dvs W0 Tr) (dCallON k F dv δp) := fun tp G H σ ρ τ Q E P =>
  ha _ _ _ _ _ _ _ E (P.bind fun as τ1 vs G1 H1 e1 E1 r1 P1 => by
    by_cases h : as.length + dv.length = k
    · rw [if_pos h] at P1
      refine ⟨by rw [List.length_append, Paired.len r1, Paired.len (hd tp G1)]; exact h, tp, G1, _, τ1, E1.g, paired_app r1 (hd tp G1), E1.t, ?_⟩
      revert P1
      cases F (as ++ dv) τ1 with
      | ok c τ' => exact fun P1 p F G' H' e s t w fr => P1 p F G' H' e (E1.ext e s t) w fr
      | ex x τ' => exact fun P1 => P1.elim
      | no => exact fun P1 => P1.elim
    · rw [if_neg h] at P1
      exact P1.elim)
def dCallKOP (k n m : Nat) (F : FnO) (g : List PV → List PV → List PV) (a b : DPs) : PEnv → TS' → R OC := fun ρ τ => (a ρ τ).bind fun as τ1 => (b ρ τ1).bind fun bs τ2 => if as.length = n ∧ bs.length = m ∧ (g as bs).length = k then F (g as bs) τ2 else .no
def dCallKON (k n m : Nat) (F : FnO) (g : List PV → List PV → List PV) (a b : DPs) : PEnv → TS' → R OC := fun ρ τ => (a ρ τ).bind fun as τ1 => (b ρ τ1).bind fun bs τ2 => if as.length = n ∧ bs.length = m ∧ (g as bs).length = k then (F (g as bs) τ2).nox else .no
theorem df_callKN {n m : Nat} {gV : List V → List V → List V} {g : List PV → List PV → List PV} {tk : TA} (hg : ∀ (R : V → PV → Prop) vs as zs bs, Paired R vs as → Paired R zs bs → as.length = n → bs.length = m → Paired R (gV vs zs) (g as bs))
    (ha : DnPs W Wx Tr δp) (hk : DnPs W Wx tk δk) : DnF W Wx (tCallKE n m (spO W k F) gV W0 Tr tk) (dCallKON k n m F g δp δk) := fun tp G H σ ρ τ Q E P =>
  ha _ _ _ _ _ _ _ E (P.bind fun as τ1 vs G1 H1 e1 E1 r1 P1 => hk _ _ _ _ _ _ _ E1 (P1.bind fun bs τ2 zs G2 H2 e2 E2 r2 P2 => by
    by_cases h : as.length = n ∧ bs.length = m ∧ (g as bs).length = k
    · rw [if_pos h] at P2
      have hp := hg _ vs as zs bs (args_mono r1 e2.g) r2 h.1 h.2.1
      refine ⟨by rw [Paired.len r1]; exact h.1, by rw [Paired.len r2]; exact h.2.1, by rw [Paired.len hp]; exact h.2.2, tp, G2, _, τ2, E2.g, hp, E2.t, ?_⟩
      revert P2
      cases F (g as bs) τ2 with
      | ok c τ' => exact fun P1 p F G' H' e s t w fr => P1 p F G' H' e (E2.ext e s t) w fr
      | ex x τ' => exact fun P1 => P1.elim
      | no => exact fun P1 => P1.elim
    · rw [if_neg h] at P2
      exact P2.elim))
/-- a new thing that stays from now on -/
def dFz (φ : PEnv → TS' → R OC) : DE := fun ρ τ => (φ ρ τ).bind fun c τ1 => .ok (ocD c) τ1
theorem dn_fz (he : DnF W Wx te φ) : Dn W Wx te (dFz φ) := fun tp G H σ ρ τ Q E P => by
  refine he _ _ _ _ _ _ _ E ?_
  unfold dFz at P
  revert P
  cases φ ρ τ with
  | ok c τ1 =>
    intro P p F G1 H1 e1 E1 w fr
    have s1 : Same G1 (upF G1 H1 F) := upF_same fun q hq => (fr q hq).2.1
    refine P (.ref p) (upF G1 H1 F) H1 ⟨e1.g.trans s1, e1.h, fun q nq hq hg => ?_⟩ (E1.freezeF (fun q hq => (fr q hq).2) fun q hq => (E.noO (fr q hq).1).ext E e1) (w.rp s1 upF_in)
    rw [upF_out (fun z => hq (fr q z).1)]
    exact e1.f q nq hq hg
  | ex x τ1 => exact fun P => P
  | no => exact fun P => P
/-! a, b, c = x, y, z -/
def dPar3 (i j l : Nat) (a : DA) : DS := fun ρ τ => stE (a ρ τ) ρ fun ds τ1 => match ds with
  | [d, e, f] => .ok (.nx (((ρ.set i (some (.fr d))).set j (some (.fr e))).set l (some (.fr f)))) τ1
  | _ => .no
theorem ds_par3 {i j l : Nat} (ha : DnA W Wx tr δr) : DnS W Wx (tPar3 i j l tr) (dPar3 i j l δr) := fun tp0 G0 H0 tp G H σ ρ τ D E P =>
  ha _ _ _ _ _ _ _ E.v (P.bind E fun ds τ1 vs G1 H1 E1 e1 r1 P1 => by
    split at P1
    · cases r1 with | cons r rs =>
      cases rs with | cons r' rs =>
      cases rs with | cons r'' rs =>
      cases rs
      exact ⟨_, _, _, rfl, P1 tp G1 H1 _ (Same.refl _) (((E1.setF r).setF r').setF r'')⟩
    · exact P1.elim)
def dPar3O (i j l : Nat) (a : PEnv → TS' → R OC) (b c : DE) : DS := fun ρ τ => stE (a ρ τ) ρ fun x τ1 => stE (b ρ τ1) ρ fun y τ2 => stE (c ρ τ2) ρ fun z τ3 => .ok (.nx (((ρ.set i (some (.ow x))).set j (some (.fr y))).set l (some (.fr z)))) τ3
theorem ds_par3O {i j l : Nat} (ha : DnF W Wx ta φ) (hb : Dn W Wx tb δb) (hc : Dn W Wx tc δc) : DnS W Wx (tPar3 i j l (tCons ta (tCons tb (tCons tc tNil)))) (dPar3O i j l φ δb δc) := fun tp0 G0 H0 tp G H σ ρ τ D E P =>
  dnF_run ha E P fun c τ1 p F G1 H1 E1 e1 h1 n1 P1 => hb _ _ _ _ _ _ _ E1.v (P1.bind E1 fun d τ2 v G2 H2 E2 e2 r2 P2 => hc _ _ _ _ _ _ _ E2.v (P2.bind E2 fun d' τ3 v' G3 H3 E3 e3 r3 P3 =>
    ⟨_, _, _, rfl, P3 tp G3 H3 _ (Same.refl _) (((E3.setH (i := i) ((h1.ext E1.v e2).ext E2.v e3) fun q hq => (n1 q hq).2).setF (r2.mono e3.g)).setF r3)⟩))
/-- x[k], x[l] = d, e -/
def dSwap (i : Nat) (k l d e : DE) : DS := fun ρ τ => stE (d ρ τ) ρ fun x τ1 => stE (e ρ τ1) ρ fun y τ2 => match ρ[i]? with
  | some (some (.ow (.lst xs))) => stE (k ρ τ2) ρ fun n τ3 => match n with
    | .int n => match ixN xs.length n with
      | some j => match l (ρ.set i (some (.ow (.lst (xs.set j x))))) τ3 with
        | .ok (.int m) τ4 => match ixN xs.length m with
          | some j' => .ok (.nx (ρ.set i (some (.ow (.lst ((xs.set j x).set j' y)))))) τ4
          | none => .no
        | _ => .no
      | none => .no
    | _ => .no
  | _ => .no
theorem ds_swap {i : Nat} {tk tl td te : TE} {δk δl δd δe : DE} (hk : Dn W Wx tk δk) (hl : Dn W Wx tl δl) (hd : Dn W Wx td δd) (he : Dn W Wx te δe) :
    DnS W Wx (tAsg (tTup (tCons td (tCons te tNil))) (gTup W.K 2 (gCons (L2.gSub (tVar i) tk rSetL) (gCons (L2.gSub (tVar i) tl rSetL) gNil)))) (dSwap i δk δl δd δe) := fun tp0 G0 H0 tp G H σ ρ τ D E P =>
  hd _ _ _ _ _ _ _ E.v (P.bind E fun d τ1 y G1 H1 E1 e1 r1 P1 => he _ _ _ _ _ _ _ E1.v (P1.bind E1 fun d' τ2 z G2 H2 E2 e2 r2 P2 => ⟨(by show 2 ≤ sizeLine; decide), fun p np => by
    split at P2
    · rename_i xs hi
      have E3 : EnvS W tp0 G0 H0 tp G2 (upd H2 p (.tup [y, z])) σ ρ τ2 := E2.step (Ext.newH np) (E2.v.newH np)
      obtain ⟨a, _, ha, rfl, vs, hv, rv⟩ := E3.getO hi
      refine ⟨p, _, rfl, SqT.of upd_same, rfl, ?_⟩
      refine ⟨_, _, rfl, ⟨_, ha, hk _ _ _ _ _ _ _ E3.v (P2.bind E3 fun n τ3 kv G4 H4 E4 e4 r4 P4 => ?_)⟩⟩
      cases r4 <;> first | exact P4.elim | skip
      rename_i n
      obtain ⟨b, _, hb, rfl, ws, hw, rw'⟩ := E4.getO hi
      rw [ha] at hb
      cases hb
      simp only at P4
      split at P4
      · rename_i j hj
        refine ⟨a, ws, n, j, rfl, rfl, hw, by rw [rw'.length]; exact hj, ?_⟩
        have E5 := E4.mut (c' := .lst (xs.set j d)) hi ha ⟨rfl, ws, hw, rw'⟩ ⟨rfl, _, upd_same, RpA.set (Rp.mono ((e2.g).trans e4.g) r1) j rw'⟩
        refine ⟨_, _, rfl, ⟨_, ha, ?_⟩⟩
        refine hl _ _ _ _ _ _ _ E5.v ?_
        split at P4
        · rename_i m τ4 hm
          rw [hm]
          intro lv G6 H6 e6 E6 r6
          cases r6
          split at P4
          · rename_i j' hj'
            have E6' := E5.step e6 E6
            have hi' : (ρ.set i (some (PV.ow (.lst (xs.set j d)))))[i]? = some (some (PV.ow (.lst (xs.set j d)))) := by
              rw [List.getElem?_set_self (List.getElem?_eq_some_iff.mp hi).1]
            obtain ⟨b2, _, hb2, rfl, ws2, hw2, rw2⟩ := E6'.getO hi'
            rw [ha] at hb2
            cases hb2
            refine ⟨a, ws2, m, j', rfl, rfl, hw2, by rw [rw2.length, List.length_set]; exact hj', ?_⟩
            have E7 := E6'.mut (c' := .lst ((xs.set j d).set j' d')) hi' ha ⟨rfl, ws2, hw2, rw2⟩ ⟨rfl, _, upd_same, RpA.set (Rp.mono (e4.g.trans e6.g) r2) j' rw2⟩
            rw [List.set_set] at E7
            exact ⟨rfl, P4 tp G6 _ σ e6.g E7⟩
          · exact P4.elim
        · exact P4.elim
      · exact P4.elim
    · exact P2.elim⟩))
end
end Np

set_option Elab.async false
set_option linter.all false
set_option maxRecDepth 100000
namespace Np
open PySem L2
variable {W : Wp} {Wx : L2.St → XK}
/-- a, b, c = x, y, z by way of a tuple, the first a new owned object -/
theorem ds_tup3O {i j l : Nat} {ta tb tc : TE} {φ : PEnv → TS' → R OC} {δb δc : DE} (ha : DnF W Wx ta φ) (hb : Dn W Wx tb δb) (hc : Dn W Wx tc δc) :
    DnS W Wx (tAsg (tTup (tCons ta (tCons tb (tCons tc tNil)))) (gTup W.K 3 (gCons (gName i) (gCons (gName j) (gCons (gName l) gNil))))) (dPar3O i j l φ δb δc) := fun tp0 G0 H0 tp G H σ ρ τ D E P =>
  dnF_run ha E P fun c τ1 p F G1 H1 E1 e1 h1 n1 P1 => hb _ _ _ _ _ _ _ E1.v (P1.bind E1 fun d τ2 v G2 H2 E2 e2 r2 P2 => hc _ _ _ _ _ _ _ E2.v (P2.bind E2 fun d' τ3 v' G3 H3 E3 e3 r3 P3 => ⟨(by show 3 ≤ sizeLine; decide), fun q nq => by
    have x4 := Ext.newH (tp := tp) (G := G3) (o := .tup [.ref p, v, v']) nq
    have E4 : EnvS W tp0 G0 H0 tp G3 (upd H3 q (.tup [.ref p, v, v'])) σ ρ τ3 := E3.step x4 (E3.v.newH nq)
    refine ⟨q, _, rfl, SqT.of upd_same, rfl, ?_⟩
    exact ⟨_, _, rfl, _, _, rfl, _, _, rfl, rfl, P3 tp G3 _ _ (Same.refl _) (((E4.setH (i := i) (((h1.ext E1.v e2).ext E2.v e3).ext E3.v x4) fun q hq => (n1 q hq).2).setF (r2.mono e3.g)).setF r3)⟩⟩))
end Np

set_option Elab.async false
set_option linter.all false
set_option maxRecDepth 100000
set_option maxHeartbeats 4000000
namespace Np
open PySem PySem.Spec PyProof.Rows L2
/-! x.rsplit(sep, k) -/
section
variable {X : Cx}
abbrev rRsplit : V → List V → Hp → VK → Prop := fun x xs H Q => ∃ (a b : Str) (k : Int), x = .str a ∧ xs = [.str b, .int k] ∧ (b.length == 0) = false ∧ -(2 ^ 63) ≤ k ∧ k < 2 ^ 63 ∧ a.length + 2 ≤ sizeLine ∧ rNewStrs (Txt.rsplitMax a b k) H Q
theorem mt_rsplit : MtR X "str.rsplit" rRsplit := by
  intro pins s σ H x xs v us Q I rx rs h
  obtain ⟨a, b, k, rfl, rfl, hb, k1, k2, hz, h⟩ := h
  obtain ⟨t, rfl⟩ := rx
  cases rs with
  | cons r1 rs =>
    cases rs with
    | cons r2 rs =>
      cases rs
      obtain ⟨u, rfl⟩ := r1
      obtain ⟨v, rfl⟩ := r2
      have e1 : decide (k < -(2 ^ 63 : Int)) = false := decide_eq_false (by omega)
      have e2 : decide (k ≥ 2 ^ 63) = false := decide_eq_false (by omega)
      have hk : (decide (k < -(2 ^ 63 : Int)) || decide (k ≥ 2 ^ 63)) = false := by rw [e1, e2, Bool.or_false]
      have hn : (Builtin.Str.partsBetween a (Builtin.Str.occurrencesFromRight a b (limitOf a k)) b.length).length ≤ sizeLine := by
        have e1 := StrLaws.occR_length_le_len a b (limitOf a k)
        rw [length_partsBetween]; omega
      have hl : (Txt.rsplitMax a b k).length ≤ sizeLine := by
        unfold Txt.rsplitMax
        split
        · show 1 ≤ sizeLine; omega
        · split
          · show 1 ≤ sizeLine; omega
          · exact hn
      cases h1 : (decide (a.length < b.length) || decide (Builtin.Str.strKind a < Builtin.Str.strKind b))
      · cases hf : (Builtin.Str.occurrencesFromRight a b (limitOf a k)).isEmpty
        · refine call_meets F.slot_str_rsplit (typeIs_str _ _ _) F.entry_str_rsplit (F.args_str_rsplit_3 _ _ _) (meets_str_rsplit_sep_max a b k t u v hk h1 hb hf (by omega) hn) ?_
          show EP X pins σ Q (.ref s.heap.objs.size) { s with toks := _, heap := s.heap.push { cls := .type "list", data := .seq (strsFrom s.toks (Builtin.Str.partsBetween a (Builtin.Str.occurrencesFromRight a b (limitOf a k)) b.length)).toArray } }
          rw [strsFrom_eq]
          exact laid_strs (ys := Txt.rsplitMax a b k) I ((numbered_texts _ _).trans ((if_neg (ne_true_of_eq_false h1)).trans (if_neg (ne_true_of_eq_false hf))).symm) hl h
        · refine call_meets F.slot_str_rsplit (typeIs_str _ _ _) F.entry_str_rsplit (F.args_str_rsplit_3 _ _ _) (meets_str_rsplit_max_not_found a b k t u v hk h1 hb hf) ?_
          exact laid_strs (l := [(a, t)]) (ys := Txt.rsplitMax a b k) (k := s.toks) I ((if_neg (ne_true_of_eq_false h1)).trans (if_pos hf)).symm hl h
      · refine call_meets F.slot_str_rsplit (typeIs_str _ _ _) F.entry_str_rsplit (F.args_str_rsplit_3 _ _ _) (meets_str_rsplit_max_cannot_occur a b k t u v hk h1) ?_
        exact laid_strs (l := [(a, t)]) (ys := Txt.rsplitMax a b k) (k := s.toks) I (if_pos h1).symm hl h
end
section
variable {W : Wp} {Wx : L2.St → XK}
def gRsplit (z : Str) : List DD → Option DD
  | [.str y, .int k] => if (y.length == 0) = false ∧ -9223372036854775808 ≤ k ∧ k < 9223372036854775808 ∧ z.length + 2 ≤ sizeLine then some (.lst ((Txt.rsplitMax z y k).map .str)) else none
  | _ => none
theorem md_rsplit : MtD W rRsplit gRsplit := by
  intro G H z xs as c Q s ra e k
  unfold gRsplit at e
  split at e
  · cases ra with | cons r rs =>
    cases rs with | cons r' rs =>
    cases rs
    obtain ⟨h, rfl⟩ := ifs e
    cases r'
    exact ⟨z, _, _, rfl, by rw [r.str_of], h.1, h.2.1, h.2.2.1, h.2.2.2, fun p n => k _ _ _ (Ext.new n s) (same_both s) (rp_newL (s.free n) (RpA.strs _))⟩
  · cases e
end
/-! a, b, c = a list -/
section
variable {prog : Program} {w : World} {A : Around} {s : Shared} {E : Value → Shared → Prop}
theorem wpAny_draw_list {it t : Addr} {items : Array Value} (hne : t ≠ it) : ∀ (n i : Nat) (s : Shared) (Q : List Value → Shared → Prop), s.heap.IsListIter it t i → s.heap.IsList t items → i + n ≤ items.size →
    (∀ h', h'.IsListIter it t (i + n) → Heap.SameBut it s.heap h' → Q ((items.toList.drop i).take n) { s with heap := h' }) → wpAny (model prog w) A (draw (.ref it) n) Q E s
  | 0, i, s, Q, hit, _, _, hQ => by
    show wpAny _ _ (pure []) Q E s
    exact wpAny_pure (by simpa using hQ s.heap hit (Heap.SameBut.refl ..))
  | n + 1, i, s, Q, hit, ht, hle, hQ => by
    have hlt : i < items.size := by omega
    show wpAny _ _ (pyNext (.ref it) >>= _) Q E s
    refine wpAny_bind (wpAny_pyNext_list_item hit ht (x := items[i]) (by simp [hlt]) fun h₁ hit₁ hs₁ => ?_)
    refine wpAny_bind (wpAny_holding (wpAny_draw_list hne n (i + 1) _ _ hit₁ (ht.extBut hs₁.extBut hne) (by omega) fun h₂ hit₂ hs₂ => wpAny_pure ?_))
    have hd : items.toList.drop i = items[i] :: items.toList.drop (i + 1) := by simp [List.drop_eq_getElem_cons, hlt]
    have := hQ h₂ (by rw [show i + (n + 1) = i + 1 + n by omega]; exact hit₂) (hs₁.trans hs₂)
    rw [hd, List.take_succ_cons] at this
    exact this
theorem wpAny_unpackItems_list {t : Addr} {items : Array Value} {Q : List Value → Shared → Prop} (hh : A.handled = none) (hp : PlainL s.heap t items)
    (hQ : ∀ h', Heap.ExtBut s.heap.objs.size s.heap h' → Q items.toList { s with heap := h' }) : wpAny (model prog w) A (unpackItems (.ref t) items.size none) Q E s := by
  have ht := hp.isList
  have hlt : t ≠ s.heap.objs.size := Nat.ne_of_lt hp.lt
  have ht0 : (s.heap.push { cls := .type "list_iterator", data := .fields #[.ref t, .int 0 0] }).IsList t items := by
    obtain ⟨o, ho, r⟩ := ht
    exact ⟨o, Heap.get?_push_of_some _ ho, r⟩
  unfold unpackItems
  refine wpAny_bind ?_
  · unfold notIterableAtAll
    refine wpAny_bind (wpAny_specialOf ht.typeIs PySem.slot_list_iter.lookup ?_)
    refine wpAny_pure ?_
    simp only [Bool.false_eq_true, if_false]
    refine wpAny_bind (wpAny_holding (wpAny_pyIter_list ht ?_))
    refine wpAny_bind (wpAny_holding (wpAny_draw_list hlt items.size 0 _ _ ⟨_, Heap.get?_push_size _ rfl, rfl, rfl⟩ ht0 (by omega) fun h₁ hit₁ hs₁ => ?_))
    have hall : List.take items.size (List.drop 0 items.toList) = items.toList := by
      rw [List.drop_zero]; exact List.take_of_length_le (by simp)
    rw [hall]
    rw [if_neg (by simp)]
    have ht₁ : h₁.IsList t items := ht0.extBut hs₁.extBut hlt
    refine wpAny_bind (wpAny_holding (wpAny_pyNext_list_end hh hit₁ ht₁ (by simp) fun h₂ he₂ => ?_))
    simp only [Option.isSome_none, Bool.false_eq_true, if_false]
    refine wpAny_pure (hQ h₂ fun b o hb e => he₂ b o hb (hs₁.extBut b o hb (Heap.get?_push_of_some _ e)))
end
section
variable {X : Cx}
def gLsT (K : PySem.W.Frag) (n : Nat) (t : TGs) : TG := fun v σ H Q => ∃ a xs, v = .ref a ∧ SqL K H a xs ∧ xs.length = n ∧ t xs σ H Q
theorem pg_lst {es : List Expr} {k : Nat} {t : TGs} {n : Nat} {pos : Pos} (hc : X.calm = true) (h : PGs X es t)
    (hn : (assignEach es X.env).length = n := by rfl) (hst : (assignEach es X.env).findIdx? (·.1) = none := by rfl) : PG X (.Tuple es k pos) (gLsT X.K n t) := by
  refine ⟨fun pins s σ H v u Q I r hw => ?_⟩
  obtain ⟨a, xs, e1, hq, hl, hw⟩ := hw
  subst e1
  cases r
  obtain ⟨its, rv, ht, hz⟩ := I.list hq
  rw [arm_assign_Tuple]
  refine wpAny_bind (wpAny_standAt ?_)
  unfold unpack
  rw [hst, show (assignEach es X.env).length = its.toArray.size by simp [hn, ← hl, rv.length]]
  refine wpAny_bind (wpAny_holding (wpAny_unpackItems_list (I.ok.hd hc) ht fun h' hx => ?_))
  have I1 : Inv X pins σ H { s with heap := h' } := I.kept (t' := s.toks) fun b o e => hx b o (Nat.ne_of_lt (Heap.lt_size e)) e
  exact h.run pins _ σ H xs _ Q I1 (by simpa using rv) hw
theorem pg_lstK {es : List Expr} {k n : Nat} {t : TGs} {pos : Pos} (K : PySem.W.Frag) (hc : X.calm = true) (h' : PGs X es t)
    (hn : (assignEach es X.env).length = n := by rfl) (hst : (assignEach es X.env).findIdx? (·.1) = none := by rfl) (h : X.K = K := by rfl) : PG X (.Tuple es k pos) (gLsT K n t) := by subst h; exact pg_lst hc h' hn hst
end
section
variable {W : Wp} {Wx : L2.St → XK}
theorem tgFs_len : ∀ (ts : List Tg) (ds : List DD) (ρ ρ' : PEnv), tgFs ts ds ρ = some ρ' → ds.length = ts.length := by
  intro ts
  induction ts with
  | nil => intro ds ρ ρ' h; cases ds with
    | nil => rfl
    | cons d ds => rw [tgFs] at h <;> first | (cases h; done) | (intros; contradiction)
  | cons t ts ih =>
    intro ds ρ ρ' h
    cases ds with
    | nil => rw [tgFs] at h <;> first | (cases h; done) | (intros; contradiction)
    | cons d ds =>
      rw [tgFs] at h
      split at h
      · exact congrArg Nat.succ (ih _ _ _ h)
      · cases h
def dAsgL (e : DE) (ts : List Tg) : DS := fun ρ τ => stE (e ρ τ) ρ fun d τ1 => match d with
  | .lst ds => match tgFs ts ds ρ with
    | some ρ1 => .ok (.nx ρ1) τ1
    | none => .no
  | _ => .no
theorem ds_asgL {ts : List Tg} {te : TE} {δe : DE} (he : Dn W Wx te δe) : DnS W Wx (tAsg te (gLsT W.K ts.length (tgGs W.K ts))) (dAsgL δe ts) := fun tp0 G0 H0 tp G H σ ρ τ D E P =>
  he _ _ _ _ _ _ _ E.v (P.bind E fun d τ1 v G1 H1 E1 e1 r1 P1 => by
    split at P1
    · rename_i ds
      cases hg : tgFs ts ds ρ with
      | none => rw [hg] at P1; exact P1.elim
      | some ρ1 =>
        rw [hg] at P1
        cases r1 with | lst e rs =>
        rename_i a xs
        refine ⟨_, xs, rfl, SqL.of (E1.v.g _ _ e), by rw [rs.length]; exact tgFs_len _ _ _ _ hg, ?_⟩
        exact tgs_run ts E1.v rs hg fun σ' E' s _ => P1 tp G1 H1 _ (Same.refl _) (E1.sub E' s)
    · exact P1.elim)
end
end Np

set_option Elab.async false
set_option linter.all false
set_option maxRecDepth 100000
set_option maxHeartbeats 4000000
namespace Np
open PySem PySem.Spec PyProof.Rows L2
section
variable {W : Wp} {Wx : L2.St → XK}
/-! try: .. except X as e: kept = e -/
def dTryK (exm : Str → Option Bool) (i j : Nat) (δ : DS) : DS := fun ρ τ => match δ ρ τ with
  | .ok (.xc x ρ1) τ1 => match exm x.cls with
    | some true => if i < ρ1.length then .ok (.nx ((ρ1.set j (some (.fr (.exc x.cls x.fs)))).set i none)) τ1 else .no
    | some false => .ok (.xc x ρ1) τ1
    | none => .no
  | r => r
theorem ds_try {tb : WX → L2.TS} {δ : DS} {c : Value} {i j : Nat} {exm : Str → Option Bool} (hij : i ≠ j) (hx : ∀ s b, exm s = some b → PySem.W.exmOne W.K (.ref (W.cm s)) c = some b)
    (hb : ∀ Wz : WX, DnS W (fun σ cls d H => Wz cls d σ H) (tb Wz) δ) :
    DnS W Wx (fun D σ H => tb (wKeep W.K c i (fun _ _ _ => tSeq (tAsg (tVar i) (gName j)) tNext) (fun cls d σ H => Wx σ cls d H) D) D σ H) (dTryK exm i j δ) := fun tp0 G0 H0 tp G H σ ρ τ D E P => by
  refine hb _ _ _ _ _ _ _ _ _ _ _ E ?_
  unfold dTryK at P
  revert P
  match δ ρ τ with
  | .ok (.nx ρ') τ' => exact fun P => P
  | .ok (.bk ρ') τ' => exact fun P => P
  | .ok (.ct ρ') τ' => exact fun P => P
  | .ok (.rt d) τ' => exact fun P => P
  | .ok (.ro d) τ' => exact fun P => P
  | .ex x τ' => exact fun P => P
  | .no => exact fun P => P
  | .ok (.xc x ρ1) τ1 =>
    intro P d tp' G1 H1 σ1 s1 E1 hxr
    cases hm : exm x.cls with
    | none => simp only [hm] at P; exact P.elim
    | some b =>
      refine ⟨b, hx _ _ hm, fun hb1 a oe vs na z dt => ?_, fun hb0 => ?_⟩
      · subst hb1
        simp only [hm] at P
        obtain ⟨xs, hd, rf⟩ := hxr
        have E2 : EnvS W tp0 G0 H0 tp' (upd G1 a (exk a oe)) (upd H1 a (exk a oe)) σ1 ρ1 τ1 := E1.step (Ext.new na E1.v.g) (E1.v.new na)
        have sg : Same G1 (upd G1 a (exk a oe)) := same_new (E1.v.g.free na)
        have r : Rp W.K W.cm (upd G1 a (exk a oe)) (.ref a) (.exc x.cls x.fs) := .exc upd_same z dt (hd.mono sg) (rf.mono sg)
        have E3 := (E2.setF (i := j) r)
        have E4 : EnvS W tp0 G0 H0 tp' (upd G1 a (exk a oe)) (upd H1 a (exk a oe)) ((σ1.set j (some (.ref a))).set i none) ((ρ1.set j (some (.fr (.exc x.cls x.fs)))).set i none) τ1 :=
          E3.sub E3.v.setN (Sub.set fun _ z => by cases z)
        by_cases hi : i < ρ1.length
        · rw [if_pos hi] at P
          have := P tp' _ _ _ (s1.trans sg) E4
          have hl : i < σ1.length := by have := E1.v.s.length; omega
          refine ⟨_, List.getElem?_set_self hl, ?_⟩
          show D.nx (((σ1.set i (some (.ref a))).set j (some (.ref a))).set i none) (upd H1 a (exk a oe))
          rw [List.set_comm _ _ hij, List.set_set]
          exact this
        · rw [if_neg hi] at P
          exact P.elim
      · subst hb0
        simp only [hm] at P
        exact P d tp' G1 H1 σ1 s1 E1 hxr
end
end Np

set_option Elab.async false
set_option linter.all false
set_option maxRecDepth 100000
set_option maxHeartbeats 4000000
namespace Np
open PySem PySem.Spec PyProof.Rows L2
section
variable {W : Wp} {Wx : L2.St → XK} {te : TE} {δ : DE}
/-! what is asked of a kept exception -/
theorem Rp.kept {K : PySem.W.Frag} {cm : CM} {G : Hp} {v : V} {C : Str} {fs : List (Str × DD)} (r : Rp K cm G v (.exc C fs)) : ∃ a d xs, v = .ref a ∧ Kept G a (cm C) d xs ∧ (d = none → xs = []) ∧ RpF K cm G xs fs := by
  cases r with
  | exc h z q h2 rf => exact ⟨_, _, _, rfl, ⟨⟨_, _, h, z, q⟩, fun dd e => by subst e; exact h2⟩, fun e => by subst e; exact h2, rf⟩
def dIsX (kit : Str → Option Bool) (a : DE) : DE := fun ρ τ => (a ρ τ).bind fun x τ1 => match x with
  | .exc C _ => R.of τ1 ((kit C).map .bl)
  | _ => .no
theorem dn_isX {kit : Str → Option Bool} {c : V} {u : Value} (hc : ClsV c u) (hk : ∀ s b, kit s = some b → ExcC W.K (W.cm s) ∧ PySem.W.kitOne W.K (.ref (W.cm s)) u = some b) (he : Dn W Wx te δ) :
    Dn W Wx (tCB (rIsX W.K) (tCons te (tCons (tC c) tNil))) (dIsX kit δ) := fun tp G H σ ρ τ Q E P =>
  he _ _ _ _ _ _ _ E (P.bind fun a τ1 x G1 H1 e1 E1 r1 P1 => by
    cases a <;> first | exact P1.elim | skip
    rename_i C fs
    obtain ⟨y, hy, P2⟩ := P1.of
    obtain ⟨b, hb, rfl⟩ := Option.map_eq_some_iff.mp hy
    obtain ⟨h1, h2⟩ := hk _ _ hb
    obtain ⟨p, d, xs, rfl, kp, nz, rf⟩ := r1.kept
    exact ⟨p, _, _, _, _, _, b, rfl, kp.mono E1.g, h1, hc, h2, P2 _ G1 H1 Ext.refl E1 (.bl b)⟩)
/-- isinstance(kept, (c1, c2, ..)) -/
def tCs : List V → TA
  | [] => tNil
  | c :: cs => tCons (tC c) (tCs cs)
theorem tCs_run : ∀ (cs : List V) {σ : L2.St} {H : Hp} {Q : List V → Hp → Prop}, Q cs H → tCs cs σ H Q
  | [], _, _, _, h => h
  | c :: cs, _, _, _, h => tCs_run cs (Q := fun xs H2 => _) h
theorem dn_isXT {kit : Str → Option Bool} {cs : List V} {us : List Value} (hc : Paired ClsV cs us) (hz : cs.length ≤ 1000) (hk : ∀ s b, kit s = some b → ExcC W.K (W.cm s) ∧ PySem.W.kitAny W.K (.ref (W.cm s)) us = some b) (he : Dn W Wx te δ) :
    Dn W Wx (tCB (rIsXT W.K) (tCons te (tCons (tTup (tCs cs)) tNil))) (dIsX kit δ) := fun tp G H σ ρ τ Q E P =>
  he _ _ _ _ _ _ _ E (P.bind fun a τ1 x G1 H1 e1 E1 r1 P1 => by
    cases a <;> first | exact P1.elim | skip
    rename_i C fs
    obtain ⟨y, hy, P2⟩ := P1.of
    obtain ⟨b, hb, rfl⟩ := Option.map_eq_some_iff.mp hy
    obtain ⟨h1, h2⟩ := hk _ _ hb
    obtain ⟨p, d, xs, rfl, kp, nz, rf⟩ := r1.kept
    refine tCs_run cs ⟨Nat.le_trans hz (by decide), fun t nt => ?_⟩
    exact ⟨p, _, t, _, _, cs, us, b, rfl, (kp.mono E1.g).mono (same_new nt), h1, upd_same, hc, h2, P2 _ G1 _ (Ext.newH nt) (E1.newH nt) (.bl b)⟩)
/-- kept.field -/
def dFx (ok : Str → Bool) (f : Str) (a : DE) : DE := fun ρ τ => (a ρ τ).bind fun x τ1 => match x with
  | .exc C fs => if ok C = true then R.of τ1 (fs.lookup f) else .no
  | _ => .no
theorem RpF.look {K : PySem.W.Frag} {cm : CM} {G : Hp} {f : Str} : ∀ {xs : List (Str × V)} {fs : List (Str × DD)} {d : DD}, RpF K cm G xs fs → fs.lookup f = some d → ∃ v, xs.lookup f = some v ∧ Rp K cm G v d
  | _, _, _, .nil, h => nomatch h
  | (k, v) :: vs, (_, d') :: ds, d, .cons r rs, h => by
    rw [List.lookup_cons] at h
    rw [List.lookup_cons]
    cases q : f == k with
    | true => rw [q] at h; cases h; exact ⟨v, rfl, r⟩
    | false => rw [q] at h; exact RpF.look rs h
theorem dn_fx {ok : Str → Bool} {f : Str} (hk : ∀ s, ok s = true → ExcC W.K (W.cm s) ∧ PySem.W.findIn W.K (.ref (W.cm s)) f = some none) (he : Dn W Wx te δ) :
    Dn W Wx (tFx W.K f te) (dFx ok f δ) := fun tp G H σ ρ τ Q E P =>
  he _ _ _ _ _ _ _ E (P.bind fun a τ1 x G1 H1 e1 E1 r1 P1 => by
    cases a <;> first | exact P1.elim | skip
    rename_i C fs
    by_cases ho : ok C = true
    · simp only [ho, if_true] at P1
      obtain ⟨y, hy, P2⟩ := P1.of
      obtain ⟨h1, h2⟩ := hk _ ho
      obtain ⟨p, d, xs, rfl, kp, nz, rf⟩ := r1.kept
      obtain ⟨v, hv, rv⟩ := rf.look hy
      cases d with
      | none => rw [nz rfl] at hv; cases hv
      | some d => exact ⟨p, _, d, xs, v, rfl, kp.mono E1.g, h1, h2, hv, P2 _ G1 H1 Ext.refl E1 rv⟩
    · simp only [ho] at P1
      exact P1.elim)
end
/-! tables of classes -/
def tb0 : Str → Option Bool := fun _ => none
def tb (A : Str) (v : Bool) (r : Str → Option Bool) : Str → Option Bool := fun s => if s = A then some v else r s
theorem tb0_ok {P : Str → Bool → Prop} : ∀ s b, tb0 s = some b → P s b := fun _ _ h => nomatch h
theorem tb_ok {P : Str → Bool → Prop} {A : Str} {v : Bool} {r : Str → Option Bool} (h : P A v) (k : ∀ s b, r s = some b → P s b) : ∀ s b, tb A v r s = some b → P s b := fun s b q => by
  unfold tb at q
  split at q
  · rename_i e; subst e; cases q; exact h
  · exact k s b q
end Np

set_option Elab.async false
set_option linter.all false
set_option maxRecDepth 100000
set_option maxHeartbeats 4000000
namespace Np
open PySem PySem.Spec PyProof.Rows L2
section
variable {W : Wp} {Wx : L2.St → XK} {ta tb tc : TE} {δa δb δc : DE} {tr : TA} {δr : DA}
theorem truV_of {G H : Hp} {x : V} {a : DD} {b : Bool} (g : Same G H) (r1 : Rp W.K W.cm G x a) (hb : tru a = some b) : TruV W.K x H b := by
  cases r1 with
  | non => cases hb; rfl
  | bl b => cases hb; rfl
  | int i => cases hb; rfl
  | str i =>
    have hb : (if i.length ≤ sizeLine then some ((i.length : Int) != 0) else none) = some b := hb
    split at hb
    · rename_i h; cases hb; exact ⟨h, rfl⟩
    · cases hb
  | lst h r => cases hb; exact .inl ⟨_, .inl (.inl (g _ _ h)), by rw [r.isEmpty]⟩
  | tup h r => cases hb; exact .inr (.inl ⟨_, SqT.of (g _ _ h), by rw [r.isEmpty]⟩)
  | dic h r => cases hb; exact .inr (.inr ⟨_, g _ _ h, by rw [r.isEmpty]⟩)
  | obj h r => cases hb
  | exc h z q b r => cases hb
  | raw a => cases hb
/-- x or y by truth -/
def dOrU (a b : DE) : DE := fun ρ τ => (a ρ τ).bind fun x τ1 => (R.of τ1 (tru x)).bind fun k τ2 => if k = true then .ok x τ2 else b ρ τ2
def dAndU (a b : DE) : DE := fun ρ τ => (a ρ τ).bind fun x τ1 => (R.of τ1 (tru x)).bind fun k τ2 => if k = true then b ρ τ2 else .ok x τ2
theorem dn_orU (ha : Dn W Wx ta δa) (hb : Dn W Wx tb δb) : Dn W Wx (tOrT W.K ta tb) (dOrU δa δb) := fun tp G H σ ρ τ Q E P =>
  ha _ _ _ _ _ _ _ E (P.bind fun a τ1 x G1 H1 e1 E1 r1 P1 => by
    cases h : tru a with
    | none => rw [h] at P1; exact P1.elim
    | some k =>
      rw [h] at P1
      refine ⟨k, truV_of E1.g r1 h, ?_⟩
      cases k with
      | true => exact iteT (P1 _ G1 H1 Ext.refl E1 r1)
      | false => exact iteF (hb _ _ _ _ _ _ _ E1 P1))
theorem dn_andU (ha : Dn W Wx ta δa) (hb : Dn W Wx tb δb) : Dn W Wx (tAndT W.K ta tb) (dAndU δa δb) := fun tp G H σ ρ τ Q E P =>
  ha _ _ _ _ _ _ _ E (P.bind fun a τ1 x G1 H1 e1 E1 r1 P1 => by
    cases h : tru a with
    | none => rw [h] at P1; exact P1.elim
    | some k =>
      rw [h] at P1
      refine ⟨k, truV_of E1.g r1 h, ?_⟩
      cases k with
      | true => exact iteT (hb _ _ _ _ _ _ _ E1 P1)
      | false => exact iteF (P1 _ G1 H1 Ext.refl E1 r1))
theorem pe_orTK {X : Cx} (K : PySem.W.Frag) {a b : Expr} {rest : List Expr} {pos : Pos} (ha : PE X a ta) (hb : PE X (.BoolOp .Or (b :: rest) pos) tb) (h : X.K = K := by rfl) : PE X (.BoolOp .Or (a :: b :: rest) pos) (tOrT K ta tb) := by subst h; exact pe_orT ha hb
theorem pe_andTK {X : Cx} (K : PySem.W.Frag) {a b : Expr} {rest : List Expr} {pos : Pos} (ha : PE X a ta) (hb : PE X (.BoolOp .And (b :: rest) pos) tb) (h : X.K = K := by rfl) : PE X (.BoolOp .And (a :: b :: rest) pos) (tAndT K ta tb) := by subst h; exact pe_andT ha hb
/-- {} -/
theorem dn_dic0 : Dn W Wx tDNewK (dC (.dic [])) := fun tp G H σ ρ τ Q E P =>
  fun p n => P _ _ _ (Ext.new n E.g) (E.new n) (.dic upd_same .nil)
/-- strip, lstrip, rstrip of some signs -/
abbrev gLstripC := m1S fun z y => if z.length ≤ sizeLine then some (.str (Txt.lstripChars z y)) else none
abbrev gRstripC := m1S fun z y => if z.length ≤ sizeLine then some (.str (Txt.rstripChars z y)) else none
abbrev gStripC := m1S fun z y => if z.length ≤ sizeLine then some (.str (Txt.stripChars z y)) else none
theorem md_stripG {f : Str → Str → Str} : MtD W (fun x xs H Q => ∃ a b, x = .str a ∧ xs = [.str b] ∧ a.length ≤ sizeLine ∧ Q (.str (f a b)) H) (m1S fun z y => if z.length ≤ sizeLine then some (.str (f z y)) else none) := by
  intro G H z xs as c Q s ra e k
  obtain ⟨y, rfl, e⟩ := m1S_eq e
  cases ra with | cons r rs =>
  cases rs
  obtain ⟨h, rfl⟩ := ifs e
  exact ⟨z, y, rfl, by rw [r.str_of], h, k _ G H ext_n s (.str _)⟩
theorem md_lstripC : MtD W (fun x xs H Q => ∃ a b, x = .str a ∧ xs = [.str b] ∧ a.length ≤ sizeLine ∧ Q (.str (Txt.lstripChars a b)) H) gLstripC := md_stripG
theorem md_rstripC : MtD W (fun x xs H Q => ∃ a b, x = .str a ∧ xs = [.str b] ∧ a.length ≤ sizeLine ∧ Q (.str (Txt.rstripChars a b)) H) gRstripC := md_stripG
theorem md_stripC : MtD W (fun x xs H Q => ∃ a b, x = .str a ∧ xs = [.str b] ∧ a.length ≤ sizeLine ∧ Q (.str (Txt.stripChars a b)) H) gStripC := md_stripG
end
/-! a def that catches all that it meets -/
def bodyN (n : Nat) (δ : DS) : Fn := fun as τ => (bodyF n δ as τ).nox
theorem body_okN {W : Wp} {H : Hp} {N : List Str} {k : Nat} {t : L2.TS} {δ : DS} {vs : List V} {Q : VK} {E : XK} (ht : DnS W (fun _ _ _ _ => False) t δ) (h : spP W k (bodyN N.length δ) vs H Q E) : t { nx := fun _ H' => Q .non H', rt := Q } (L2.start N vs) H := by
  obtain ⟨l, tp, G, as, τ, s, a, tt, h⟩ := h
  refine body_ok (E := fun _ _ _ => False) ht ⟨l, tp, G, as, τ, s, a, tt, ?_⟩
  unfold bodyN at h
  revert h
  cases bodyF N.length δ as τ with
  | ok d τ' => exact fun h => h
  | ex x τ' => exact fun h => h.elim
  | no => exact fun h => h
end Np

set_option Elab.async false
set_option linter.all false
set_option maxRecDepth 100000
set_option maxHeartbeats 4000000
namespace Np
open PySem PySem.Spec PyProof.Rows L2
/-! ### keywords and defaults: which value each parameter gets -/
inductive Ix where
  | a (i : Nat) | z (i : Nat) | c (i : Nat)
def pick1 {α : Type} (dv us ws : List α) : Ix → Option α
  | .a i => us[i]?
  | .z i => ws[i]?
  | .c i => dv[i]?
def pickL {α : Type} (dv : List α) (ix : List Ix) (us ws : List α) : List α := ix.filterMap (pick1 dv us ws)
theorem paired_at {α β : Type} {R : α → β → Prop} : ∀ {xs : List α} {ys : List β}, Paired R xs ys → ∀ i : Nat, (xs[i]? = none ∧ ys[i]? = none) ∨ ∃ x y, xs[i]? = some x ∧ ys[i]? = some y ∧ R x y
  | _, _, .nil, i => .inl ⟨by simp, by simp⟩
  | _, _, .cons h t, 0 => .inr ⟨_, _, rfl, rfl, h⟩
  | _, _, .cons h t, i + 1 => by simpa using paired_at t i
theorem pick_rel {α β : Type} {R : α → β → Prop} {dv us ws : List α} {dv' us' ws' : List β} (hd : Paired R dv dv') (hu : Paired R us us') (hw : Paired R ws ws') : ∀ ix : List Ix, Paired R (pickL dv ix us ws) (pickL dv' ix us' ws')
  | [] => .nil
  | i :: ix => by
    have ih := pick_rel hd hu hw ix
    have h : (pick1 dv us ws i = none ∧ pick1 dv' us' ws' i = none) ∨ ∃ x y, pick1 dv us ws i = some x ∧ pick1 dv' us' ws' i = some y ∧ R x y := by
      cases i with
      | a i => exact paired_at hu i
      | z i => exact paired_at hw i
      | c i => exact paired_at hd i
    unfold pickL at ih ⊢
    rcases h with ⟨h1, h2⟩ | ⟨x, y, h1, h2, r⟩
    · rw [List.filterMap_cons_none h1, List.filterMap_cons_none h2]; exact ih
    · rw [List.filterMap_cons_some h1, List.filterMap_cons_some h2]; exact .cons r ih
section
variable {K : PySem.W.Frag} {x qual : Str} {f : Addr} {fd : FuncData} {ps : List Str}
theorem Fun.kbp {st : Stmt} (F : Fun K x qual st f fd) (n : Nat) (ks : List Str) (ix : List Ix)
    (h : ∀ (kV doc pm : Value) (an : Option Addr) (cdv ct : Value) (us ws : List Value), us.length = n → ws.length = ks.length → bindArgs (PySem.W.fnOf x qual (defArgs st) (defBody st) (defScope st) .none kV doc pm an cdv ct) ⟨us, ks.zip ws⟩ = pure (ps.zip (pickL [] ix us ws))) : KB K fd ps n ks (pickL [] ix) :=
  Fun.kb F n ks (fun us ws => pickL [] ix us ws) (fun r1 r2 => pick_rel .nil r1 r2 ix) h
theorem FunD.kbp {params : Arguments} {body : List Stmt} {scope : Scope} {dvs : List V} (F : FunD K x qual params body scope dvs [] f fd) (n : Nat) (ks : List Str) (ix : List Ix) (hd : dvs ≠ [])
    (h : ∀ (T : Addr) (kV doc pm : Value) (an : Option Addr) (cdv ct : Value) (us its ws : List Value), us.length = n → its.length = dvs.length → ws.length = ks.length →
      ∃ k, bindArgs (PySem.W.fnOf x qual params body scope (.ref T) kV doc pm an cdv ct) ⟨us, ks.zip ws⟩ = seqItems? (.ref T) >>= k ∧ k (some its.toArray) = pure (ps.zip (pickL its ix us ws))) : KB K fd ps n ks (pickL dvs ix) := by
  obtain ⟨oc, od, dV, kV, doc, pm, an, cdv, ct, osl, rfl, lk, hcd, hD, hK⟩ := F.ex
  rcases hD with ⟨e, _⟩ | ⟨_, T, o, its, m, rfl, lT, oT, rT⟩
  · exact absurd e hd
  · refine ⟨fun us ws => pickL its ix us ws, ⟨fun s us ws X l1 l2 => ?_, fun r1 r2 => pick_rel rT r1 r2 ix⟩⟩
    obtain ⟨k, e1, e2⟩ := h T kV doc pm an cdv ct us its ws l1 rT.length.symm l2
    refine BindsTo.of_looks fun M => ?_
    rw [e1]
    exact looks_items X lT oT (.of_pure e2)
end
section
variable {W : Wp} {Wx : L2.St → XK} {tr tk : TA} {δr δk : DPs} {dvs : List V} {dv : List PV} {ix : List Ix}
theorem dn_kw {k n m : Nat} {F : Fn} (hd : ∀ tp G, Paired (ArgR W tp G) dvs dv) (ha : DnPs W Wx tr δr) (hk : DnPs W Wx tk δk) : Dn W Wx (tCallKE n m (spP W k F) (pickL dvs ix) Wx tr tk) (dCallKP k n m F (pickL dv ix) δr δk) := fun tp G H σ ρ τ Q E P =>
  ha _ _ _ _ _ _ _ E (P.bind fun as τ1 vs G1 H1 e1 E1 r1 P1 => hk _ _ _ _ _ _ _ E1 (P1.bind fun bs τ2 zs G2 H2 e2 E2 r2 P2 => by
    by_cases h : as.length = n ∧ bs.length = m ∧ (pickL dv ix as bs).length = k
    · rw [if_pos h] at P2
      have hp := pick_rel (hd tp G2) (args_mono r1 e2.g) r2 ix
      exact ⟨by rw [Paired.len r1]; exact h.1, by rw [Paired.len r2]; exact h.2.1, by rw [Paired.len hp]; exact h.2.2, tp, G2, _, τ2, E2.g, hp, E2.t, FnPost.of E2 P2⟩
    · rw [if_neg h] at P2
      exact P2.elim))
theorem dn_kwN {k n m : Nat} {F : Fn} (hd : ∀ tp G, Paired (ArgR W tp G) dvs dv) (ha : DnPs W Wx tr δr) (hk : DnPs W Wx tk δk) : Dn W Wx (tCallKE n m (spP W k F) (pickL dvs ix) W0 tr tk) (dCallKN k n m F (pickL dv ix) δr δk) := fun tp G H σ ρ τ Q E P =>
  ha _ _ _ _ _ _ _ E (P.bind fun as τ1 vs G1 H1 e1 E1 r1 P1 => hk _ _ _ _ _ _ _ E1 (P1.bind fun bs τ2 zs G2 H2 e2 E2 r2 P2 => by
    by_cases h : as.length = n ∧ bs.length = m ∧ (pickL dv ix as bs).length = k
    · rw [if_pos h] at P2
      have hp := pick_rel (hd tp G2) (args_mono r1 e2.g) r2 ix
      refine ⟨by rw [Paired.len r1]; exact h.1, by rw [Paired.len r2]; exact h.2.1, by rw [Paired.len hp]; exact h.2.2, tp, G2, _, τ2, E2.g, hp, E2.t, ?_⟩
      revert P2
      cases F (pickL dv ix as bs) τ2 with
      | ok d τ' => exact fun P1 v G' H' e s t r => P1 v G' H' e (E2.ext e s t) r
      | ex x τ' => exact fun P1 => P1.elim
      | no => exact fun P1 => P1.elim
    · rw [if_neg h] at P2
      exact P2.elim))
theorem df_kwN {k n m : Nat} {F : FnO} (hd : ∀ tp G, Paired (ArgR W tp G) dvs dv) (ha : DnPs W Wx tr δr) (hk : DnPs W Wx tk δk) : DnF W Wx (tCallKE n m (spO W k F) (pickL dvs ix) W0 tr tk) (dCallKON k n m F (pickL dv ix) δr δk) := fun tp G H σ ρ τ Q E P =>
  ha _ _ _ _ _ _ _ E (P.bind fun as τ1 vs G1 H1 e1 E1 r1 P1 => hk _ _ _ _ _ _ _ E1 (P1.bind fun bs τ2 zs G2 H2 e2 E2 r2 P2 => by
    by_cases h : as.length = n ∧ bs.length = m ∧ (pickL dv ix as bs).length = k
    · rw [if_pos h] at P2
      have hp := pick_rel (hd tp G2) (args_mono r1 e2.g) r2 ix
      refine ⟨by rw [Paired.len r1]; exact h.1, by rw [Paired.len r2]; exact h.2.1, by rw [Paired.len hp]; exact h.2.2, tp, G2, _, τ2, E2.g, hp, E2.t, ?_⟩
      revert P2
      cases F (pickL dv ix as bs) τ2 with
      | ok c τ' => exact fun P1 p F G' H' e s t w fr => P1 p F G' H' e (E2.ext e s t) w fr
      | ex x τ' => exact fun P1 => P1.elim
      | no => exact fun P1 => P1.elim
    · rw [if_neg h] at P2
      exact P2.elim))
theorem df_kwP {k n m : Nat} {F : FnO} (hd : ∀ tp G, Paired (ArgR W tp G) dvs dv) (ha : DnPs W Wx tr δr) (hk : DnPs W Wx tk δk) : DnF W Wx (tCallKE n m (spO W k F) (pickL dvs ix) Wx tr tk) (dCallKOP k n m F (pickL dv ix) δr δk) := fun tp G H σ ρ τ Q E P =>
  ha _ _ _ _ _ _ _ E (P.bind fun as τ1 vs G1 H1 e1 E1 r1 P1 => hk _ _ _ _ _ _ _ E1 (P1.bind fun bs τ2 zs G2 H2 e2 E2 r2 P2 => by
    by_cases h : as.length = n ∧ bs.length = m ∧ (pickL dv ix as bs).length = k
    · rw [if_pos h] at P2
      have hp := pick_rel (hd tp G2) (args_mono r1 e2.g) r2 ix
      exact ⟨by rw [Paired.len r1]; exact h.1, by rw [Paired.len r2]; exact h.2.1, by rw [Paired.len hp]; exact h.2.2, tp, G2, _, τ2, E2.g, hp, E2.t, FnPostO.of E2 P2⟩
    · rw [if_neg h] at P2
      exact P2.elim))
end
/-! ### a def that calls itself: the deepest call is not told of -/
theorem FnG.never {P : Program} {w : World} {K : PySem.W.Frag} {mg : Str → Option Value} {base : Heap} {CX : CXT} {k : Nat} {f : Addr} {fd : FuncData} {ps : List Str} {sp : Sp} (h : ∀ vs H Q E, sp vs H Q E → False) : FnG P w K mg base CX k f fd ps sp :=
  ⟨fun vs H Q E z => (h vs H Q E z).elim, fun A outer s H args us vs Q E _ _ _ _ _ z => (h vs H Q E z).elim⟩
theorem spP_no {W : Wp} {k : Nat} {vs : List V} {H : Hp} {Q : VK} {E : XK} (h : spP W k (fun _ _ => .no) vs H Q E) : False := by
  obtain ⟨_, tp, G, as, τ, _, _, _, h⟩ := h
  exact h
theorem spO_no {W : Wp} {k : Nat} {vs : List V} {H : Hp} {Q : VK} {E : XK} (h : spO W k (fun _ _ => .no) vs H Q E) : False := by
  obtain ⟨_, tp, G, as, τ, _, _, _, h⟩ := h
  exact h
/-! ### lists of lists of a slot's own -/
section
variable {W : Wp} {Wx : L2.St → XK} {tp0 tp tp' : Option Addr} {G0 H0 G H G' H' : Hp} {σ : L2.St} {ρ : PEnv} {τ τ' : TS'} {D : Ends} {te tk : TE} {δe δk : DE} {φ : PEnv → TS' → R OC}
/-- what is owned, as a tree -/
def ocT : OC → OT
  | .lst xs => .nd .lst (xs.map .fr)
  | .dK kvs => .nd (.dK (kvs.map (·.1))) (kvs.map fun z => .fr z.2)
  | .tr k ts => .nd k ts
theorem OwA.leaves : ∀ {vs : List V} {ds : List DD}, RpA W.K W.cm G vs ds → OwA W G H vs (ds.map .fr) []
  | _, _, .nil => .nil
  | _, _, .cons h r => OwA.cons (F := []) (.fr h) (OwA.leaves r) fun p hp => by cases hp
theorem OwA.leavesK : ∀ {vs : List (Key × V)} {ds : List (Key × DD)}, RpK W.K W.cm G vs ds → OwA W G H (vs.map (·.2)) (ds.map fun z => .fr z.2) [] ∧ ds.map (·.1) = vs.map (·.1)
  | _, _, .nil => ⟨.nil, rfl⟩
  | _, _, .cons h r => by
    obtain ⟨a, b⟩ := OwA.leavesK r
    exact ⟨OwA.cons (F := []) (.fr h) a (fun p hp => nomatch hp), by simp [b]⟩
theorem zip_unzip {α β : Type} : ∀ l : List (α × β), (l.map (·.1)).zip (l.map (·.2)) = l
  | [] => rfl
  | a :: l => by simp [zip_unzip l]
theorem OwR.tree {a : Addr} {c : OC} {F : List Addr} (w : OwR W G H a c F) : Ow W G H (.ref a) (ocT c) F := by
  cases c with
  | lst xs => obtain ⟨rfl, vs, h, r⟩ := w; exact .nd (show NodeAt W H a vs .lst from h) (OwA.leaves r) (by simp)
  | dK xs =>
    obtain ⟨rfl, vs, h, r⟩ := w
    obtain ⟨q, e⟩ := OwA.leavesK (H := H) r
    exact .nd (show NodeAt W H a (vs.map (·.2)) (.dK (xs.map (·.1))) from ⟨by rw [e]; simp, by rw [e, zip_unzip]; exact h⟩) q (by simp)
  | tr k ts => exact w
def dTrF (φ : PEnv → TS' → R OC) : PEnv → TS' → R OC := fun ρ τ => (φ ρ τ).bind fun c τ1 => match ocT c with
  | .nd k ts => .ok (.tr k ts) τ1
  | .fr _ => .no
theorem df_tr (h : DnF W Wx te φ) : DnF W Wx te (dTrF φ) := fun tp G H σ ρ τ Q E P => by
  refine h _ _ _ _ _ _ _ E ?_
  unfold dTrF at P
  revert P
  cases φ ρ τ with
  | ok c τ1 =>
    intro P p F G1 H1 e1 E1 w fr
    cases hc : ocT c with
    | fr d => cases c <;> simp [ocT] at hc
    | nd k ts =>
      rw [R.bind_ok, hc] at P
      exact P p F G1 H1 e1 E1 (by have := w.tree; rw [hc] at this; exact this) fr
  | ex x τ1 => exact fun P => P
  | no => exact fun P => P
theorem OwA.snoc {v : V} {t : OT} : ∀ {vs : List V} {ts : List OT} {F F' : List Addr}, OwA W G H vs ts F → Ow W G H v t F' → (∀ p ∈ F, p ∉ F') → OwA W G H (vs ++ [v]) (ts ++ [t]) (F ++ F')
  | _, _, _, F', .nil, h, _ => by have := OwA.cons h (OwA.nil (W := W) (G := G) (H := H)) (by simp); simpa using this
  | _, _, _, F', .cons (F := F1) (F' := F2) h r n, q, d => by
    rw [List.append_assoc]
    refine OwA.cons h (OwA.snoc r q fun p hp => d p (List.mem_append_right _ hp)) fun p hp z => ?_
    rcases List.mem_append.mp z with z | z
    · exact n p hp z
    · exact d p (List.mem_append_left _ hp) z
theorem OwA.len : ∀ {vs : List V} {ts : List OT} {F : List Addr}, OwA W G H vs ts F → vs.length = ts.length
  | _, _, _, .nil => rfl
  | _, _, _, .cons _ r _ => congrArg Nat.succ (OwA.len r)
/-- x.append(e), e a new thing that x then owns -/
def dAppT (i : Nat) (φ : PEnv → TS' → R OC) : DS := fun ρ τ => match ρ[i]? with
  | some (some (.ow (.tr .lst ts))) => stE (φ ρ τ) ρ fun c τ1 => if ts.length < sizeLine then .ok (.nx (ρ.set i (some (.ow (.tr .lst (ts ++ [ocT c])))))) τ1 else .no
  | _ => .no
theorem ds_appT {i : Nat} (he : DnF W Wx te φ) : DnS W Wx (tDrop (tBM W.K "list" rAppend (tVar i) (tCons te tNil))) (dAppT i φ) := fun tp0 G0 H0 tp G H σ ρ τ D E P => by
  unfold dAppT at P
  split at P
  · rename_i ts hi
    obtain ⟨a, F, ha, w⟩ := E.getO hi
    cases (show Ow W G H _ _ _ from w) with | nd hn ra na =>
    rename_i vs F
    refine ⟨_, ha, .inl ⟨rfl, vs, SqL.of hn⟩, dnF_run he E P fun c τ1 p F' G1 H1 E1 e1 h n P1 => ?_⟩
    obtain ⟨b, F1, hb, w1⟩ := E1.getO hi
    rw [ha] at hb
    cases hb
    have w0 := E.v.backE e1 hi ha w1
    cases (show _ = F1 from w.uniq w0)
    cases (show Ow W G1 H1 _ _ _ from w1) with | nd hn1 ra1 na1 =>
    rename_i vs1
    by_cases hl : ts.length < sizeLine
    · rw [if_pos hl] at P1
      have dj : ∀ q ∈ a :: F, q ∉ F' := fun q hq z => h.no q z i _ a _ hi ha w1 hq
      have kp : ∀ q, q ≠ a → upd H1 a (.lst (vs1 ++ [.ref p])) q = H1 q := fun q hq => upd_ne hq
      refine ⟨a, vs1, .ref p, rfl, rfl, hn1, by rw [ra1.len]; exact hl, P1 tp G1 _ σ (Same.refl _) (E1.mutG (F' := a :: (F ++ F')) hi ha w1 (fun q o hq hh => by rw [kp q (fun z => hq (by rw [z]; simp))]; exact hh) ?_ fun q hq => ?_)⟩
      · refine Ow.nd (show NodeAt W _ a (vs1 ++ [.ref p]) .lst from upd_same) (OwA.snoc (ra1.keep (Same.refl _) fun q hq o hh => by rw [kp q (fun z => na1 (by rw [← z]; exact hq))]; exact hh) (h.w.tree.keep (Same.refl _) fun q hq o hh => by rw [kp q (fun z => dj a (by simp) (by rw [← z]; exact hq))]; exact hh) fun q hq => dj q (List.mem_cons_of_mem _ hq)) fun z => ?_
        rcases List.mem_append.mp z with z | z
        · exact na1 z
        · exact dj a (by simp) z
      · rcases List.mem_cons.mp hq with rfl | hq
        · exact .inl (by simp)
        · rcases List.mem_append.mp hq with hq | hq
          · exact .inl (List.mem_cons_of_mem _ hq)
          · exact .inr ⟨h.no q hq, (h.fr q hq).1, (h.fr q hq).2, (n q hq).2⟩
    · rw [if_neg hl] at P1
      exact P1.elim
  · exact P.elim
/-- x.append(e), e as it stays -/
def dAppL (i : Nat) (e : DE) : DS := fun ρ τ => match ρ[i]? with
  | some (some (.ow (.tr .lst ts))) => stE (e ρ τ) ρ fun d τ1 => if ts.length < sizeLine then .ok (.nx (ρ.set i (some (.ow (.tr .lst (ts ++ [.fr d])))))) τ1 else .no
  | _ => .no
theorem ds_appL {i : Nat} (he : Dn W Wx te δe) : DnS W Wx (tDrop (tBM W.K "list" rAppend (tVar i) (tCons te tNil))) (dAppL i δe) := fun tp0 G0 H0 tp G H σ ρ τ D E P => by
  unfold dAppL at P
  split at P
  · rename_i ts hi
    obtain ⟨a, F, ha, w⟩ := E.getO hi
    cases (show Ow W G H _ _ _ from w) with | nd hn ra na =>
    rename_i vs F
    refine ⟨_, ha, .inl ⟨rfl, vs, SqL.of hn⟩, he _ _ _ _ _ _ _ E.v (P.bind E fun d τ1 y G1 H1 E1 e1 r1 P1 => ?_)⟩
    obtain ⟨b, F1, hb, w1⟩ := E1.getO hi
    rw [ha] at hb
    cases hb
    cases (show Ow W G1 H1 _ _ _ from w1) with | nd hn1 ra1 na1 =>
    rename_i vs1 F1
    by_cases hl : ts.length < sizeLine
    · rw [if_pos hl] at P1
      have kp : ∀ q, q ≠ a → upd H1 a (.lst (vs1 ++ [y])) q = H1 q := fun q hq => upd_ne hq
      refine ⟨a, vs1, y, rfl, rfl, hn1, by rw [ra1.len]; exact hl, P1 tp G1 _ σ (Same.refl _) (E1.mutG (F' := a :: (F1 ++ [])) hi ha w1 (fun q o hq hh => by rw [kp q (fun z => hq (by rw [z]; simp))]; exact hh) ?_ fun q hq => .inl (by simpa using hq))⟩
      exact Ow.nd (show NodeAt W _ a (vs1 ++ [y]) .lst from upd_same) (OwA.snoc (ra1.keep (Same.refl _) fun q hq o hh => by rw [kp q (fun z => na1 (by rw [← z]; exact hq))]; exact hh) (.fr r1) fun q hq => by simp) (by simpa using na1)
    · rw [if_neg hl] at P1
      exact P1.elim
  · exact P.elim
/-- one child of a node: what it is, and that it may become another one with the same feet -/
theorem OwA.focus : ∀ {vs : List V} {ts : List OT} {F : List Addr} {j : Nat} {t : OT}, OwA W G H vs ts F → ts[j]? = some t → ∃ v Fj, vs[j]? = some v ∧ Ow W G H v t Fj ∧ (∀ q ∈ Fj, q ∈ F) ∧
    ∀ {G2 H2 : Hp} {t2 : OT}, Same G G2 → (∀ q ∈ F, q ∉ Fj → ∀ o, H q = some o → H2 q = some o) → Ow W G2 H2 v t2 Fj → OwA W G2 H2 vs (ts.set j t2) F
  | _, _, _, _, _, .nil, e => by simp at e
  | _, _, _, 0, t, .cons (F := F1) (F' := F2) h r n, e => by
    simp only [List.getElem?_cons_zero, Option.some.injEq] at e
    subst e
    refine ⟨_, F1, rfl, h, fun q hq => List.mem_append_left _ hq, fun g k w => ?_⟩
    exact OwA.cons w (r.keep g fun q hq => k q (List.mem_append_right _ hq) fun z => n q z hq) n
  | _, _, _, j + 1, t, .cons (F := F1) (F' := F2) h r n, e => by
    obtain ⟨v, Fj, h1, h2, h3, h4⟩ := OwA.focus (j := j) r (by simpa using e)
    refine ⟨v, Fj, by simpa using h1, h2, fun q hq => List.mem_append_right _ (h3 q hq), fun g k w => ?_⟩
    exact OwA.cons (h.keep g fun q hq => k q (List.mem_append_left _ hq) fun z => n q hq (h3 q z)) (h4 g (fun q hq => k q (List.mem_append_right _ hq)) w) n
/-- x[k].append(e) -/
def dAppIx (i : Nat) (k e : DE) : DS := fun ρ τ => match ρ[i]? with
  | some (some (.ow (.tr .lst ts))) => stE (k ρ τ) ρ fun n τ1 => match n with
    | .int n => match ixN ts.length n with
      | some j => match ts[j]? with
        | some (.nd .lst us) => stE (e ρ τ1) ρ fun d τ2 => if us.length < sizeLine then .ok (.nx (ρ.set i (some (.ow (.tr .lst (ts.set j (.nd .lst (us ++ [.fr d])))))))) τ2 else .no
        | _ => .no
      | none => .no
    | _ => .no
  | _ => .no
theorem ds_appIx {i : Nat} (hk : Dn W Wx tk δk) (he : Dn W Wx te δe) : DnS W Wx (tDrop (tBM W.K "list" rAppend (tOp (rIxL W.K) (tVar i) tk) (tCons te tNil))) (dAppIx i δk δe) := fun tp0 G0 H0 tp G H σ ρ τ D E P => by
  unfold dAppIx at P
  split at P
  · rename_i ts hi
    obtain ⟨a, F, ha, w⟩ := E.getO hi
    refine ⟨_, ha, hk _ _ _ _ _ _ _ E.v (P.bind E fun n τ1 kv G1 H1 E1 e1 r1 P1 => ?_)⟩
    cases r1 <;> first | exact P1.elim | skip
    rename_i n
    cases hj : ixN ts.length n with
    | none => simp only [hj] at P1; exact P1.elim
    | some j =>
      simp only [hj] at P1
      split at P1
      · rename_i us hu
        obtain ⟨b, F1, hb, w1⟩ := E1.getO hi
        rw [ha] at hb
        cases hb
        cases (show Ow W G1 H1 _ _ _ from w1) with | nd hn1 ra1 na1 =>
        rename_i vs1 F1
        obtain ⟨v, Fj, h1, h2, h3, h4⟩ := ra1.focus hu
        cases h2 with | nd hnj raj naj =>
        rename_i b ws Fb
        have hn1' : H1 a = some (.lst vs1) := hn1
        have hnj' : H1 b = some (.lst ws) := hnj
        have hat : atI vs1 n = some (.ref b) := by
          unfold atI
          rw [ra1.len, hj]
          exact h1
        refine ⟨a, vs1, n, .ref b, rfl, rfl, SqL.of hn1', hat, .inl ⟨rfl, ws, SqL.of hnj'⟩, he _ _ _ _ _ _ _ E1.v (P1.bind E1 fun d τ2 y G2 H2 E2 e2 r2 P2 => ?_)⟩
        obtain ⟨b', F2, hb, w2⟩ := E2.getO hi
        rw [ha] at hb
        cases hb
        have w0 := E1.v.backE e2 hi ha w2
        cases (show _ = F2 from w1.uniq w0)
        cases (show Ow W G2 H2 _ _ _ from w2) with | nd hn2 ra2 na2 =>
        rename_i vs2
        have hk1 : H2 a = some (.lst vs1) := by
          obtain ⟨F0, w00, gn⟩ := E1.v.own hi ha
          exact e2.h a _ (gn a w00.mem).2 hn1'
        have hn2' : H2 a = some (.lst vs2) := hn2
        rw [hk1] at hn2'
        cases hn2'
        obtain ⟨v2, Fj2, g1, g2, g3, g4⟩ := ra2.focus hu
        rw [h1] at g1
        cases g1
        cases g2 with | nd hnb rab nab =>
        rename_i ws2 Fb2
        by_cases hl : us.length < sizeLine
        · rw [if_pos hl] at P2
          have hnb' : H2 b = some (.lst ws2) := hnb
          have ba : b ≠ a := fun z => na2 (by rw [← z]; exact g3 b (by simp))
          have kp : ∀ q, q ≠ b → upd H2 b (.lst (ws2 ++ [y])) q = H2 q := fun q hq => upd_ne hq
          refine ⟨b, ws2, y, rfl, rfl, hnb', by rw [rab.len]; exact hl, P2 tp G2 _ σ (Same.refl _) (E2.mutG (F' := _) hi ha w2 (fun q o hq hh => by rw [kp q (fun z => hq (by rw [z]; exact List.mem_cons_of_mem _ (g3 b (by simp))))]; exact hh) ?_ fun q hq => .inl hq)⟩
          refine Ow.nd (show NodeAt W _ a vs1 .lst from ?_) (g4 (Same.refl _) (fun q hq nq o hh => by rw [kp q (fun z => nq (by rw [z]; simp))]; exact hh) ?_) na2
          · show upd H2 b _ a = _
            rw [kp a (fun z => ba z.symm)]
            exact hk1
          · have := Ow.nd (show NodeAt W (upd H2 b (.lst (ws2 ++ [y]))) b (ws2 ++ [y]) .lst from upd_same) (OwA.snoc (rab.keep (Same.refl _) fun q hq o hh => by rw [kp q (fun z => nab (by rw [← z]; exact hq))]; exact hh) (.fr r2) fun q hq => by simp) (F := Fb2 ++ []) (by simpa using nab)
            simpa using this
        · rw [if_neg hl] at P2
          exact P2.elim
      · exact P1.elim
  · exact P.elim
end
end Np

set_option Elab.async false
set_option linter.all false
set_option maxRecDepth 100000
set_option maxHeartbeats 4000000
namespace Np
open PySem PySem.Spec PyProof.Rows L2
/-! ### a token is out: what x.replace(y, z) of written texts wants -/
/-- a def behind whose call a token is out -/
structure FnT (P : Program) (w : World) (K : PySem.W.Frag) (mg : Str → Option Value) (base : Heap) (CX : CXT) (k : Nat) (f : Addr) (fd : FuncData) (ps : List Str) (sp : Sp) : Prop where
  len : ∀ vs H Q E, sp vs H Q E → vs.length = ps.length
  run : ∀ (A : Around) (outer : List Env) (s : Shared) (H : Hp) (args : Args) (us : List Value) (vs : List V) (Q : VK) (E : XK), A.guards = some [] → Room k A → Env0 P w K mg base A outer s H → BindsTo s fd args (ps.zip us) → Vals vs us → sp vs H Q E →
    codeAny (model P w) A (.call (.ref f) args) (fun r s' => (∀ fl, r = .ok fl → 1 ≤ s'.toks) ∧ CR CX outer P w H s Q E r s') s
theorem FnT.fn {P : Program} {w : World} {K : PySem.W.Frag} {mg : Str → Option Value} {base : Heap} {CX : CXT} {k : Nat} {f : Addr} {fd : FuncData} {ps : List Str} {sp : Sp} (F : FnT P w K mg base CX k f fd ps sp) : FnG P w K mg base CX k f fd ps sp :=
  ⟨F.len, fun A outer s H args us vs Q E a b c d e g => codeAny_mono (F.run A outer s H args us vs Q E a b c d e g) fun _ _ z => z.2⟩
structure OkT (P : Program) (w : World) (K : PySem.W.Frag) (mg : Str → Option Value) (base : Heap) (CX : CXT) (k : Nat) (x : Str) (ps : List Str) (sp : Sp) (f : Addr) (fd : FuncData) : Prop where
  ok : FnT P w K mg base CX k f fd ps sp
  m : mg x = some (.ref f)
  kp : PySem.W.keepIn K (.ref f) = true
/-- a block behind which a token is out -/
def PSsP (X : Cx) (st : List Stmt) (t : L2.TS) : Prop :=
  ∀ (pins : List (Addr × Obj)) (s : Shared) (σ : L2.St) (H : Hp) (D : Ends), L2.Inv X pins σ H s → t D σ H → wpAny (model X.prog X.w) X.A (execs st X.env) (fun f s' => 1 ≤ s'.toks ∧ SP X pins D f s') X.xe s
theorem pssP_str {X : Cx} {rest : List Stmt} {u : L2.TS} {i j : Nat} {x c : Str} {cpos pos' pos : Pos} (hN : X.N.Nodup) (hi : X.N[i]? = some x) (hx : Loc X.env.scope x) (h2 : PSs X rest u)
    (hs : swapsWith (.Constant (.str c) j cpos) (some (.Name x pos')) pos.line X.env = pure false := by rfl) (hf : X.fn x = true ∨ X.env.scope.names.lookup x = some .local := by first | exact .inl rfl | exact .inr rfl | assumption) :
    PSsP X (.Assign [.Name x pos'] (.Constant (.str c) j cpos) pos :: rest) (tSeq (tAsg (tC (.str c)) (gName i)) u) := by
  intro pins s σ H D I h
  refine wpAny_execs_cons (wpAny_Assign_Name (Calls.Constant_str ?_) hs)
  have st := store_ok (M := model X.prog X.w) (A := X.A) (v := V.str c) (u := Value.str c s.toks) (Q := fun _ s2 => L2.Inv X pins (σ.set i (some (V.str c))) H s2) (E := X.xe) (I.tok (s.toks + 1)) hN hi hx ⟨s.toks, rfl⟩ (fun _ I2 => I2) hf
  refine wpAny_mono (PySem.wpAny_toks st) (fun _ s2 q => ?_) fun _ s2 z => z.2
  have hk : s.toks + 1 ≤ s2.toks := q.1
  exact wpAny_mono (PySem.wpAny_toks_of (n := 1) (by omega) (h2.run pins s2 _ H D q.2 h)) (fun _ _ z => z) fun _ _ z => z.2
theorem fn_ofT' {CX : CXT} {P : Program} {w : World} {K : PySem.W.Frag} {mg : Str → Option Value} {base : Heap} {k : Nat} {f : Addr} {name qual : Str} {params : Arguments} {body : List Stmt} {scope : Scope} {dV kV doc pm cdv ct oc : Value} {an od : Option Addr}
    {osl : Array (Option Value)} {N ps : List Str} {sp : Sp} (lk : K.lookup f = some ⟨oc, od, .func (PySem.W.fnOf name qual params body scope dV kV doc pm an cdv ct), osl⟩) (hcd : PySem.W.codeIn K cdv qual = true) (S : FnScope N ps scope)
    (len : ∀ vs H Q E, sp vs H Q E → vs.length = ps.length)
    (hbody : ∀ (A : Around) (outer : List Env) (s : Shared) (H : Hp) (vs : List V) (Q : VK) (E : XK), A.guards = some [] → Room k (A.deeper (envOfC qual scope s.heap.objs.size f cdv)) → sp vs H Q E →
      ∃ t, PSsP (cxOf CX P w K mg base N qual scope f cdv A outer s H E) body t ∧ t { nx := fun _ H' => Q .non H', rt := Q } (start N vs) H) :
    FnT P w K mg base CX (k + 1) f (PySem.W.fnOf name qual params body scope dV kV doc pm an cdv ct) ps sp := by
  refine ⟨len, fun A outer s H args us vs Q E hgd room e0 hbi rel hsp => ?_⟩
  have hlen := len _ _ _ _ hsp
  have inK : K.In s.heap := e0.mod.kin.keeps fun b o q => (e0.bs b o q).1
  have limit : s.heap.NoLimit := e0.mod.nolimit.keeps fun b o q => (e0.bs b o q).1
  have kinds : ∀ y ∈ ps.zip us, scope.names.lookup y.1 = some .local ∨ (scope.names.lookup y.1 = some .cell ∧ ((cellsFrom (s.heap.objs.size + 1) scope.names []).lookup y.1).isSome = true) := fun ⟨nm, v⟩ hy => by
    rcases S.par nm (List.of_mem_zip hy).1 with z | z
    · exact .inl z
    · exact .inr ⟨z, PySem.W.cellsFrom_some _ _ _ (.inl z)⟩
  refine codeAny_call_function room.depth (inK _ _ lk) rfl S.co S.gen rfl (PySem.W.codeRec_of inK hcd) (hbi _ _ _ _ ?_)
  refine wpAny_newFunctionEnv_cells S.kind kinds fun env henv s1 x => ?_
  subst henv
  refine ⟨limit.keeps x.toInCall.keep, codeAny_func ?_⟩
  obtain ⟨t, ht, hq⟩ := hbody A outer s H vs Q E hgd (room.deeper _) hsp
  have I0 : L2.Inv (cxOf CX P w K mg base N qual scope f cdv A outer s H E) [] (start N vs) H s1 := inv_start S room.hd e0 hlen rel x
  refine wpAny_mono (ht [] s1 (start N vs) H _ I0 hq) (fun fl s' hs => ?_) fun _ _ z => wpAny_mono z (fun _ _ y => ⟨(fun _ e => nomatch e), y⟩) fun _ _ y => ⟨(fun _ e => nomatch e), y⟩
  obtain ⟨htk, hs⟩ := hs
  have done : ∀ {σ' : L2.St} {H' : Hp} {v : V} {u : Value}, L2.Inv (cxOf CX P w K mg base N qual scope f cdv A outer s H E) [] σ' H' s' → RelV v u → Q v H' → CE outer P w H s Q u s' :=
    fun {σ' H' v u} J rv q => ⟨v, H', J.os, J.bare, J.base, J.hok, rv, q⟩
  cases fl with
  | ret u =>
    obtain ⟨v, σ', H', J, rv, q⟩ := hs
    exact ⟨fun _ _ => htk, done J rv q⟩
  | next =>
    obtain ⟨σ', H', J, q⟩ := hs
    exact ⟨fun _ _ => htk, done (v := V.non) (u := Value.none) J rfl q⟩
  | brk =>
    obtain ⟨_, _, _, q⟩ := hs
    exact q.elim
  | cont =>
    obtain ⟨_, _, _, q⟩ := hs
    exact q.elim
section
variable {P : Program} {w : World} {K : PySem.W.Frag} {mg : Str → Option Value} {base : Heap} {x qual : Str} {st : Stmt} {f : Addr} {fd : FuncData} {N ps : List Str} {k : Nat} {sp : Sp}
theorem Fun.okT (F : Fun K x qual st f fd) (S : FnScope N ps (defScope st)) (len : ∀ vs H Q E, sp vs H Q E → vs.length = ps.length)
    (hbody : ∀ (cdv : Value) (A : Around) (outer : List Env) (s : Shared) (H : Hp) (vs : List V) (Q : VK) (E : XK), (A.deeper (envOfC qual (defScope st) s.heap.objs.size f cdv)).guards = some [] → Room k (A.deeper (envOfC qual (defScope st) s.heap.objs.size f cdv)) → sp vs H Q E →
      ∃ t, PSsP (cxOf CX0 P w K mg base N qual (defScope st) f cdv A outer s H E) (defBody st) t ∧ t { nx := fun _ H' => Q .non H', rt := Q } (start N vs) H) : FnT P w K mg base CX0 (k + 1) f fd ps sp := by
  obtain ⟨oc, od, kV, doc, pm, an, cdv, ct, osl, rfl, lk, hcd⟩ := F.ex
  exact fn_ofT' lk hcd S len fun A outer s H vs Q E hgd hr hsp => hbody cdv A outer s H vs Q E hgd hr hsp
end
/-- an expression behind which a token is out -/
def PEP (X : Cx) (e : Expr) (t : TE) : Prop :=
  ∀ (pins : List (Addr × Obj)) (s : Shared) (σ : L2.St) (H : Hp) (Q : VK), L2.Inv X pins σ H s → t σ H Q → wpAny (model X.prog X.w) X.A (eval e X.env) (fun v s' => 1 ≤ s'.toks ∧ EP X pins σ Q v s') X.xe s
section
variable {X : Cx} {CX : CXT} {k n : Nat} {f : Addr} {fd : FuncData} {ps ks : List Str} {sp : Sp} {E : L2.St → XK} {x : Str} {p pos : Pos} {e : Expr} {es : List Expr} {t : TA} {dvs : List V}
theorem PEP.pe {e : Expr} {t : TE} (h : PEP X e t) : PE X e t := ⟨fun pins s σ H Q I q => wpAny_mono (h pins s σ H Q I q) (fun _ _ z => z.2) fun _ _ z => z⟩
theorem run_tw {pins : List (Addr × Obj)} {σ : L2.St} {H : Hp} {s : Shared} {Q : VK} {us ds : List Value} {vs : List V} {E : XK} (F : FnT X.prog X.w X.K X.mg X.base CX k f fd ps sp) (hgd : X.A.guards = some []) (hr : Room k X.A) (hb : Binds X.K fd ps ds) (hd : Vals dvs ds) (hx : PassesAt CX X σ E)
    (I : L2.Inv X pins σ H s) (r : Vals vs us) (h : sp (vs ++ dvs) H Q E) : wpAny (model X.prog X.w) X.A (call (.ref f) us) (fun v s' => 1 ≤ s'.toks ∧ EP X pins σ Q v s') X.xe s := by
  have r2 : Vals (vs ++ dvs) (us ++ ds) := r.append hd
  have hl : (us ++ ds).length = ps.length := by rw [← r2.length]; exact F.len _ _ _ _ h
  refine wpAny_call (codeAny_mono (F.run X.A X.stack s H ⟨us, []⟩ _ _ Q E hgd hr I.env0 (hb s us I.kIn hl) r2 h) fun r s' hq => ?_)
  obtain ⟨htk, hq⟩ := hq
  cases r with
  | error e => exact hx pins H s e s' I hq
  | ok fl =>
    cases fl with
    | ret u => exact ⟨htk _ rfl, I.after hq⟩
    | next => exact False.elim hq
    | brk => exact False.elim hq
    | cont => exact False.elim hq
theorem pep_c (O : OkT X.prog X.w X.K X.mg X.base CX k x ps sp f fd) (b : ∃ ds, Vals dvs ds ∧ Binds X.K fd ps ds) (hgd : X.A.guards = some []) (hr : Room k X.A) (hx : ∀ σ, PassesAt CX X σ (E σ)) (ha : PA X (e :: es) t) (hg : Gl X x := by rfl)
    (hdb : (x == ("__debug__" : Str)) = false := by decide) (he : starEach (e :: es) X.env = (false, eval e X.env) :: starEach es X.env := by rfl) (hpl : (backTo pos (starEach es X.env)).any (·.1) = false := by rfl) :
    PEP X (.Call (.Name x p) (e :: es) [] pos) (tCallE sp dvs E t) := by
  obtain ⟨ds, hv, hb⟩ := b
  intro pins s σ H Q I h
  refine wpAny_Call_Name_kw (ld_glob I hg O.m ?_ hdb)
  refine PySem.W.callWith_K (h₀ := X.base) I.ok.mod.kin O.kp (L2.thn (ha.run pos pins s σ H _ I h) fun us s1 hh => ?_) he hpl
  obtain ⟨vs, H1, I1, r, q⟩ := hh
  exact ⟨I1.kIn, run_tw O.ok hgd hr hb hv (hx σ) I1 r q⟩
theorem pep_c0 (O : OkT X.prog X.w X.K X.mg X.base CX k x ps sp f fd) (b : ∃ ds, Vals dvs ds ∧ Binds X.K fd ps ds) (hgd : X.A.guards = some []) (hr : Room k X.A) (hx : ∀ σ, PassesAt CX X σ (E σ)) (hg : Gl X x := by rfl)
    (hdb : (x == ("__debug__" : Str)) = false := by decide) : PEP X (.Call (.Name x p) [] [] pos) (tCallE sp dvs E tNil) := by
  obtain ⟨ds, hv, hb⟩ := b
  intro pins s σ H Q I h
  refine wpAny_Call_Name_kw (ld_glob I hg O.m ?_ hdb)
  exact PySem.W.callWith_K0 I.kIn O.kp (run_tw (us := []) (vs := []) O.ok hgd hr hb hv (hx σ) I .nil h)
theorem pep_repl {o : Expr} {to : TE} {y z : Str} {j k : Nat} {c0 c1 apos pos : Pos} (ho : PEP X o to) (hyz : (y == z) = false := by decide)
    (hst : starEach [.Constant (.str y) j c0, .Constant (.str z) k c1] X.env = [(false, eval (.Constant (.str y) j c0) X.env), (false, eval (.Constant (.str z) k c1) X.env)] := by rfl)
    (hbase : attributeBase o "replace" X.env (eval o X.env) = eval o X.env := by rfl) (hline : (apos.endLine == pos.line) = true := by rfl) :
    PEP X (.Call (.Attribute o "replace" apos) [.Constant (.str y) j c0, .Constant (.str z) k c1] [] pos) (CwR.tReplC to y z) := by
  intro pins s σ H Q I h
  refine PySem.Call_method2 hbase hst hline (wpAny_mono (ho pins s σ H _ I h) (fun v s1 q => ?_) fun _ _ z => z)
  obtain ⟨hk, v', H1, I1, r1, x, e1, hb, q⟩ := q
  subst e1
  obtain ⟨tx, e2⟩ := r1
  subst e2
  refine ⟨"str", _, PySem.F.plainAttrs_str, PySem.F.slot_str_replace, PySem.F.type_str_replace, typeIs_str _ _ _, (fun _ e => nomatch e), Calls.callWith_builtin rfl (Calls.evalArgs_plain (Calls.spliced_cons ?_))⟩
  refine Calls.Constant_str (Calls.spliced_cons (Calls.Constant_str (Calls.spliced_nil ?_)))
  have R := PySem.SC.replace (prog := X.prog) (w := X.w) (A := X.A) (E := X.xe) (s := { s1 with toks := s1.toks + 1 + 1 }) (x := x) (y := y) (z := z) (t := tx) (u := s1.toks) (v := s1.toks + 1) (Q := EP X pins σ Q) (by show s1.toks ≠ 0; omega) (by show s1.toks + 1 ≠ 0; omega) (by show s1.toks ≠ s1.toks + 1; omega) hyz hb fun t' k => ⟨.str (Txt.replace x y z), H1, I1.tok k, ⟨t', rfl⟩, q⟩
  exact wpAny_mono (PySem.wpAny_toks_of (n := 1) (by show 1 ≤ s1.toks + 1 + 1; omega) R) (fun _ _ z => z) fun _ _ z => z.2
end
section
variable {W : Wp} {Wx : L2.St → XK} {to : TE} {δ : DE}
def gRepl (y z : Str) : DD → Option DD
  | .str x => if x.length + (x.length + 1) * z.length ≤ 16777216 then some (.str (Txt.replace x y z)) else none
  | _ => none
theorem dn_repl {y z : Str} (h : Dn W Wx to δ) : Dn W Wx (CwR.tReplC to y z) (dUn (gRepl y z) δ) := fun tp G H σ ρ τ Q E P =>
  h _ _ _ _ _ _ _ E (P.bind fun a τ1 x G1 H1 e1 E1 r1 P1 => by
    obtain ⟨c, hc, P2⟩ := P1.of
    cases a <;> first | (cases hc; done) | skip
    rename_i w
    obtain ⟨hb, rfl⟩ := ifs (show (if w.length + (w.length + 1) * z.length ≤ 16777216 then some (DD.str (Txt.replace w y z)) else none) = some c from hc)
    exact ⟨w, r1.str_of, hb, P2 _ G1 H1 Ext.refl E1 (.str _)⟩)
end
end Np

set_option Elab.async false
set_option linter.all false
set_option maxRecDepth 100000
set_option maxHeartbeats 4000000
namespace Np
open PySem PySem.Spec PyProof.Rows L2
/-! ### objects of own classes: made of plain fields, and their fields read -/
/-- an __init__ that keeps its values under names, in their order -/
def spMk (C : Addr) (names : List Str) : Sp := fun vs H Q _ => ∃ (a dx : Addr) (ws : List V), vs = .ref a :: ws ∧ ws.length = names.length ∧ H a = some (.ins C dx []) ∧ Q .non (upd H a (.ins C dx (names.zip ws)))
def MakeK (P : Program) (w : World) (K : PySem.W.Frag) (mg : Str → Option Value) (base : Heap) (C : Addr) (ps names : List Str) (n : Nat) (ks : List Str) (gV : List V → List V → List V) : Prop :=
  ∃ (fI : Addr) (fd : FuncData), Mk K C fI ∧ FnOk P w K mg base CX0 1 fI fd ps (spMk C names) ∧ KB K fd ps (n + 1) ks gV
def shIx : Ix → Ix
  | .a i => .a (i + 1)
  | .z i => .z i
  | .c i => .c i
theorem pick_self {α : Type} (dv us ws : List α) (r : α) (ix : List Ix) : pickL dv (.a 0 :: ix.map shIx) (r :: us) ws = r :: pickL dv ix us ws := by
  unfold pickL
  rw [List.filterMap_cons_some (show pick1 dv (r :: us) ws (.a 0) = some r from rfl), List.filterMap_map]
  congr 2
  funext i
  cases i with
  | a i => show (r :: us)[i + 1]? = us[i]?; simp
  | z i => rfl
  | c i => rfl
section
variable {X : Cx} {n : Nat} {C : Addr} {ps names ks : List Str} {x : Str} {p pos : Pos} {e : Expr} {es : List Expr} {kws : List Keyword} {t tk : TA} {gV : List V → List V → List V}
theorem pe_mkN (h : MakeK X.prog X.w X.K X.mg X.base C ps names n ks gV) (hr : Room 2 X.A) (hm : X.mg x = some (.ref C))
    (ha : PA X (e :: es) t) (hkw : PK X kws tk) (hg : Gl X x := by rfl) (hall : (backToKw pos (keywordEach kws X.env)).all (·.1.isSome) = true := by rfl) (hks : (backToKw pos (keywordEach kws X.env)).filterMap (·.1) = ks := by rfl)
    (hdb : (x == ("__debug__" : Str)) = false := by decide) (he : starEach (e :: es) X.env = (false, eval e X.env) :: starEach es X.env := by rfl)
    (hpl : ((backTo pos (starEach (e :: es) X.env)).any (·.1) || (backToKw pos (keywordEach kws X.env)).any (·.1.isNone)) = false := by rfl) :
    PE X (.Call (.Name x p) (e :: es) kws pos) (tMakeN C n ks.length (spMk C names) gV E0 t tk) := by
  obtain ⟨fI, fd, M, F, g, hb⟩ := h
  exact pe_makeN M F hr hg hm hb (fun _ _ _ _ _ _ _ h => h.elim) ha hkw hall hks hdb he hpl
end
section
variable {W : Wp} {Wx : L2.St → XK} {tr tk : TA} {δr δk : DA}
/-- which object -/
def mkD (cls : Str) (names : List Str) (ix : List Ix) (as bs : List DD) : DD := .obj cls (names.zip (pickL [] ix as bs))
def dMkN (n m : Nat) (cls : Str) (names : List Str) (ix : List Ix) (a b : DA) : DE := fun ρ τ => (a ρ τ).bind fun as τ1 => (b ρ τ1).bind fun bs τ2 =>
  if as.length = n ∧ bs.length = m ∧ (pickL [] ix as bs).length = names.length then .ok (mkD cls names ix as bs) τ2 else .no
theorem RpA.pair {K : PySem.W.Frag} {cm : CM} {H : Hp} : ∀ {vs : List V} {ds : List DD}, RpA K cm H vs ds → Paired (Rp K cm H) vs ds
  | _, _, .nil => .nil
  | _, _, .cons h r => .cons h (RpA.pair r)
theorem RpF.zipP {K : PySem.W.Frag} {cm : CM} {H : Hp} : ∀ {names : List Str} {vs : List V} {ds : List DD}, Paired (Rp K cm H) vs ds → RpF K cm H (names.zip vs) (names.zip ds)
  | [], _, _, _ => by simp only [List.zip_nil_left]; exact .nil
  | _ :: _, _, _, .nil => by simp only [List.zip_nil_right]; exact .nil
  | _ :: ns, _, _, .cons h r => .cons h (RpF.zipP (names := ns) r)
theorem dn_mkN {n m : Nat} {cls : Str} {C : Addr} {names : List Str} {ix : List Ix} (hC : W.cm cls = C) (ha : DnA W Wx tr δr) (hk : DnA W Wx tk δk) :
    Dn W Wx (tMakeN C n m (spMk C names) (pickL [] (.a 0 :: ix.map shIx)) E0 tr tk) (dMkN n m cls names ix δr δk) := fun tp G H σ ρ τ Q E P =>
  ha _ _ _ _ _ _ _ E (P.bind fun as τ1 vs G1 H1 e1 E1 r1 P1 => hk _ _ _ _ _ _ _ E1 (P1.bind fun bs τ2 zs G2 H2 e2 E2 r2 P2 => by
    subst hC
    by_cases h : as.length = n ∧ bs.length = m ∧ (pickL [] ix as bs).length = names.length
    · rw [if_pos h] at P2
      have r1' := (r1.mono e2.g).pair
      have r2' := r2.pair
      have hp := pick_rel (R := Rp W.K W.cm G2) .nil r1' r2' ix
      refine ⟨by rw [Paired.len r1']; exact h.1, by rw [Paired.len r2']; exact h.2.1, fun x dx nx nd ne => ?_⟩
      rw [pick_self]
      refine ⟨x, dx, _, rfl, by rw [Paired.len hp]; exact h.2.2, upd_same, rfl, ?_⟩
      have nx' : upd H2 dx (.own x) x = none := by rw [upd_ne (Ne.symm ne)]; exact nx
      have tw : upd (upd (upd H2 dx (.own x)) x (.ins (W.cm cls) dx [])) x (.ins (W.cm cls) dx (names.zip (pickL [] ix vs zs))) = upd (upd H2 dx (.own x)) x (.ins (W.cm cls) dx (names.zip (pickL [] ix vs zs))) := by
        funext b
        by_cases hb : b = x
        · rw [hb, upd_same, upd_same]
        · rw [upd_ne hb, upd_ne hb, upd_ne hb]
      rw [tw]
      have E3 := E2.newH (o := .own x) nd
      exact P2 _ _ _ ((Ext.newH nd).trans (Ext.new nx' E3.g)) (E3.new nx') (.obj upd_same (RpF.zipP (Np.Paired.mapI hp fun _ _ _ _ _ q => q.mono (same_new (E3.g.free nx')))))
    · rw [if_neg h] at P2
      exact P2.elim))
/-- o.field -/
def dFld (cls : Str) (f : Str) (a : DE) : DE := fun ρ τ => (a ρ τ).bind fun x τ1 => match x with
  | .obj C fs => if C = cls then R.of τ1 (fs.lookup f) else .no
  | _ => .no
theorem dn_fld {cls f : Str} {te : TE} {δ : DE} (hC : Cls W.K (W.cm cls)) (hn : NoAttr W.K (W.cm cls) f) (he : Dn W Wx te δ) : Dn W Wx (tFld W.K te f) (dFld cls f δ) := fun tp G H σ ρ τ Q E P =>
  he _ _ _ _ _ _ _ E (P.bind fun a τ1 x G1 H1 e1 E1 r1 P1 => by
    cases a <;> first | exact P1.elim | skip
    rename_i C fs
    by_cases ho : C = cls
    · subst ho
      simp only [if_true] at P1
      obtain ⟨y, hy, P2⟩ := P1.of
      cases r1 with | obj h rf =>
      obtain ⟨v, hv, rv⟩ := rf.look hy
      exact ⟨_, _, _, _, v, rfl, E1.g _ _ h, hC, hn, hv, P2 _ G1 H1 Ext.refl E1 rv⟩
    · simp only [ho] at P1
      exact P1.elim)
end
theorem pe_fldK {X : Cx} (K : PySem.W.Frag) {e : Expr} {te : TE} {pos : Pos} {n : Str} (he : PE X e te) (hb : attributeBase e n X.env (eval e X.env) = eval e X.env := by rfl) (hK : X.K = K := by rfl) : PE X (.Attribute e n pos) (tFld K te n) := by
  subst hK
  exact pe_fld he hb

/-! ### enumerate(list, start=k) -/
def IteF (K : PySem.W.Frag) (a : Addr) (k0 : Int) : It :=
  ⟨fun i H => ∃ (xs : List V) (x : V), SqL K H a xs ∧ xs[i]? = some x, fun i H v H' => ∃ T x, v = .ref T ∧ H T = none ∧ H' = upd H T (.tup [.int (k0 + (i : Nat)), x]) ∧ ∀ xs, SqL K H a xs → xs[i]? = some x, fun i H => ∃ xs : List V, SqL K H a xs ∧ xs.length = i⟩
theorem turn_enumF {P : Program} {w : World} {K : PySem.W.Frag} {elts : List Expr} {kk : Nat} {tpos : Pos} (k0 : Int) (a e it : Addr) :
    Turn P w K (.Tuple elts kk tpos) (IteF K a k0) [e, it] e (fun i h => (∃ old, IsEnum h e it (k0 + (i : Nat)) old) ∧ h.IsListIter it a i ∧ e ≠ it ∧ a ≠ it ∧ e ≠ a) where
  mem := by simp
  obj := fun i h st b hb => by
    obtain ⟨⟨old, he⟩, ⟨o, ho, hc, hd⟩, _⟩ := st
    have e' : b = e ∨ b = it := by simpa using hb
    rcases e' with z | z
    · rw [z]; exact ⟨_, he, fun v q => nomatch q⟩
    · rw [z]; exact ⟨o, ho, fun v q => by rw [hd] at q; cases q⟩
  keep := fun i h h' st k => by
    obtain ⟨⟨old, he⟩, hi, hne⟩ := st
    exact ⟨⟨old, k e (by simp) _ he⟩, hi.at fun o q => k it (by simp) o q, hne⟩
  item := by
    intro X hP hw hK hc i pins s σ H E I hf st hg
    subst hP hw hK
    obtain ⟨⟨old, he⟩, hit, hne, hai, hea⟩ := st
    obtain ⟨xs, x, hq, hx⟩ := hg
    obtain ⟨its, rv, p, hz⟩ := I.list hq
    obtain ⟨u, hu, ru⟩ := rv.get hx
    have hel : e < s.heap.objs.size := Heap.lt_size he
    have hil : it < s.heap.objs.size := by obtain ⟨_, q, _⟩ := hit; exact Heap.lt_size q
    have hlt : i < its.toArray.size := by have := (List.getElem?_eq_some_iff.mp hu).1; simpa using this
    have D := Draws.list (prog := X.prog) (w := X.w) (A := X.A.in1) (I.ok.hd hc) it a hai its.toArray
    refine wpAny_pyNext_enum_itemC D he ⟨hit, p.isList⟩ hlt hne (by simp only [List.mem_cons, List.not_mem_nil, or_false]; exact fun z => z.elim hne hea) fun x' h' tk hP ho hs' hT hsz hk => ?_
    have hxu : x' = u := by
      have h1 : its.toArray[i]? = some u := by simpa using hu
      rw [h1] at hP
      exact (Option.some.inj hP).symm
    subst hxu
    refine ⟨_, rfl, wpAny_letOwnedTupleGo_enum (s := { s with heap := h', toks := tk + 1 }) ho fun h'' he' sb => ?_⟩
    have hT2 : h''.get? s.heap.objs.size = some { cls := .type "tuple", data := .seq #[.int (k0 + (i : Nat)) tk, x'] } := (sb.2 _ (Nat.ne_of_gt hel)).trans hT
    have new : ObjOk X.prog X.w (upd H s.heap.objs.size (.tup [.int (k0 + (i : Nat)), x])) h'' s.heap.objs.size (.tup [.int (k0 + (i : Nat)), x]) :=
      ⟨by show 2 ≤ sizeLine; decide, [.int (k0 + (i : Nat)) tk, x'], .cons ⟨_, rfl⟩ (.cons ru .nil), ⟨_, hT2, rfl, _, rfl⟩⟩
    have I1 : Inv X pins σ (upd H s.heap.objs.size (.tup [.int (k0 + (i : Nat)), x])) { s with heap := h'', toks := tk + 1 } :=
      I.turnedNew (ch := [e, it]) (fun b ob hb q => (sb.2 b (fun z => hb (by simp [z]))).trans (hk b ob (fun z => hb (by simp [z])) (fun z => hb (by simp [z])) q)) hf (Nat.le_refl _) new
    refine ⟨.ref s.heap.objs.size, _, I1, rfl, ⟨_, x, rfl, I.hok.fresh (Nat.le_refl _), rfl, fun ys hy => by rw [I.list_inj hy hq]; exact hx⟩, ⟨⟨x', ?_⟩, hs'.1.at fun o q => (sb.2 it (Ne.symm hne)).trans q, hne, hai, hea⟩, fun b hb => ?_⟩
    · have e1 : k0 + ((i + 1 : Nat) : Int) = k0 + (i : Int) + 1 := by omega
      rw [e1]; exact he'
    · have hb' : b < s.heap.objs.size := by
        have e' : b = e ∨ b = it := by simpa using hb
        rcases e' with z | z
        · rw [z]; exact hel
        · rw [z]; exact hil
      rw [upd_ne (Nat.ne_of_lt hb')]
      exact (hf b hb).1
  done := by
    intro X hP hw hK hc i pins s σ H E I hf st hg
    subst hP hw hK
    obtain ⟨⟨old, he⟩, hit, hne, hai, hea⟩ := st
    obtain ⟨xs, hq, hx⟩ := hg
    obtain ⟨its, rv, p, hz⟩ := I.list hq
    obtain ⟨f0, f1, f2, f3, f4, f5⟩ := hf it (by simp)
    have hl := rv.length
    have D := Draws.list (prog := X.prog) (w := X.w) (A := X.A.in1) (I.ok.hd hc) it a hai its.toArray
    have hi : i = its.toArray.size := by simp; omega
    subst hi
    exact wpAny_pyNext_enum_endD D he ⟨hit, p.isList⟩ fun h' eb => ⟨rfl, I.turned (t' := s.toks) (fun b o hb q => eb b o hb q) f0 f1 f3 f4 f5⟩
  self := fun A i s Q E st h => by
    obtain ⟨⟨_, he⟩, _⟩ := st
    exact wpAny_pyIter_enum he h
def iEnumF (K : PySem.W.Frag) (ta tk : TA) : TI := fun σ H R => ta σ H fun vs H1 => tk σ H1 fun zs H2 => ∃ a xs k0, vs = [.ref a] ∧ zs = [.int k0] ∧ -(2 ^ 63) ≤ k0 ∧ k0 < 2 ^ 63 ∧ SqL K H2 a xs ∧ R (IteF K a k0) H2
theorem pi_enumF {X : Cx} (K : PySem.W.Frag) {e : Expr} {kws : List Keyword} {ta tk : TA} {p pos tpos : Pos} {elts : List Expr} {kk : Nat} (hg : Gl X "enumerate") (hm : X.mg "enumerate" = none) (ha : PA X [e] ta) (hkw : PK X kws tk)
    (hall : (backToKw pos (keywordEach kws X.env)).all (·.1.isSome) = true := by rfl) (hks : (backToKw pos (keywordEach kws X.env)).filterMap (·.1) = ([Str.ofString "start"] : List Str) := by rfl)
    (he : starEach [e] X.env = [(false, eval e X.env)] := by rfl) (hpl : ((backTo pos (starEach [e] X.env)).any (·.1) || (backToKw pos (keywordEach kws X.env)).any (·.1.isNone)) = false := by rfl) (hK : X.K = K := by rfl) :
    PI X (.Tuple elts kk tpos) (.Call (.Name "enumerate" p) [e] kws pos) (iEnumF K ta tk) := by
  subst hK
  refine ⟨fun pins s σ H R I h => ?_⟩
  refine wpAny_Call_Name_kw (ld_blt I hg hm boot_enumerate ?_)
  refine PySem.W.callWith_of (P := fun _ => True) hpl (fun h _ => ⟨.machine, .inr (.inl rfl), .of_pure rfl⟩) (evalArgs_kw2 hall (L2.thn (ha.run pos pins s σ H _ I h) fun us s1 hh => ?_) he)
  obtain ⟨vs, H1, I1, r1, q1⟩ := hh
  refine L2.thn (hkw.run pos pins s1 σ H1 _ I1 q1) fun ws s2 hh2 => ?_
  obtain ⟨zs, H2, I2, rz, a, xs, k0, rfl, rfl, b0, b1, hq, q⟩ := hh2
  refine ⟨trivial, ?_⟩
  rw [hks]
  cases r1 with | cons r rr =>
  cases rr
  cases r
  cases rz with | cons rk rr =>
  cases rr
  obtain ⟨t, rfl⟩ := rk
  obtain ⟨its, rv, p', hz⟩ := I2.list hq
  have hal : a < s2.heap.objs.size := by
    obtain ⟨o, ho, _⟩ := p'.isList
    exact Heap.lt_size ho
  refine enum_begins_start (begins_list a its.toArray) p'.isList b0 b1 fun h' he hit hsz hk => wpAny_pyIter_enum he ?_
  have I3 : Inv X pins σ H2 { s2 with heap := h' } := I2.kept (t' := s2.toks) hk
  refine ⟨s2.heap.objs.size + 1, [s2.heap.objs.size + 1, s2.heap.objs.size], _, _, H2, rfl, I3, turn_enumF k0 a (s2.heap.objs.size + 1) s2.heap.objs.size, ⟨⟨.none, by simpa using he⟩, ⟨_, hit, rfl, rfl⟩, Nat.succ_ne_self _, Nat.ne_of_lt hal, Nat.ne_of_gt (Nat.lt_succ_of_lt hal)⟩, fun b hb => ?_, q⟩
  have e' : b = s2.heap.objs.size + 1 ∨ b = s2.heap.objs.size := by simpa using hb
  have hle : s2.heap.objs.size ≤ b := by
    rcases e' with z | z
    · rw [z]; exact Nat.le_add_right _ _
    · rw [z]; exact Nat.le_refl _
  exact I2.fpOk hle (I2.hok.fresh hle)

section
variable {W : Wp} {Wx : L2.St → XK} {tr tk : TA} {δr δk : DA}
def enumF (k0 : Int) (ds : List DD) : List DD := ds.mapIdx fun i d => DD.tup [.int (k0 + (i : Nat)), d]
theorem walk_enumF {K : PySem.W.Frag} {a : Addr} {k0 : Int} {xs : List V} : Walk (IteF K a k0) xs.length (fun H => SqL K H a xs) (YPair (fun i => some (.int (k0 + (i : Nat)))) (fun i => xs[i]?)) := by
  refine ⟨fun i _ hi q => ⟨xs, xs[i], q, by simp [hi]⟩, fun _ q => ⟨xs, q, rfl⟩, fun i H v H' _ q y => ?_⟩
  obtain ⟨T, x, h1, h2, h3, h4⟩ := y
  exact ⟨T, .int (k0 + (i : Nat)), x, h1, h2, h3, rfl, h4 xs q⟩
def dIEnumF (a b : DA) : DI := fun ρ τ => (a ρ τ).bind fun x τ1 => (b ρ τ1).bind fun y τ2 => match x, y with
  | [.lst ds], [.int k0] => if -(2 ^ 63) ≤ k0 ∧ k0 < 2 ^ 63 then .ok (enumF k0 ds) τ2 else .no
  | _, _ => .no
theorem di_enumF (hr : DnA W Wx tr δr) (hk : DnA W Wx tk δk) : DnI W Wx (iEnumF W.K tr tk) (dIEnumF δr δk) := fun tp G H σ ρ τ Q E P =>
  hr _ _ _ _ _ _ _ E (P.bind fun a τ1 x G1 H1 e1 E1 r1 P1 => hk _ _ _ _ _ _ _ E1 (P1.bind fun b τ2 y G2 H2 e2 E2 r2 P2 => by
    split at P2
    · rename_i ds k0
      by_cases hb : -(2 ^ 63) ≤ k0 ∧ k0 < 2 ^ 63
      · rw [if_pos hb] at P2
        cases r1 with | cons r rs =>
        cases rs
        cases r with | lst h r =>
        cases r2 with | cons r' rs =>
        cases rs
        have h2 := e2.g _ _ h
        have r2 := r.mono e2.g
        refine ⟨_, _, k0, rfl, by rw [r'.int_of], hb.1, hb.2, SqL.of (E2.g _ _ h2), P2 _ G2 H2 Ext.refl E2 (ItR.pair (walk_enumF (K := W.K) (k0 := k0)) (fun H s => SqL.of (s _ _ h2)) (by unfold enumF; rw [List.length_mapIdx, r.length]) fun i d hd u v e1 e2 => ?_)⟩
        unfold enumF at hd
        rw [List.getElem?_mapIdx] at hd
        obtain ⟨c, hc, rfl⟩ := Option.map_eq_some_iff.mp hd
        obtain ⟨y, hy, ry⟩ := r2.get hc
        cases e1
        rw [hy] at e2
        cases e2
        exact ⟨_, _, rfl, .int _, ry⟩
      · rw [if_neg hb] at P2
        exact P2.elim
    · exact P2.elim))
/-! range(i, j, c) -/
def rangeC (lo c : Int) (n : Nat) : List DD := (List.range n).map fun (i : Nat) => DD.int (lo + i * c)
instance (i j c : Int) (n : Nat) : Decidable (RgC i j c n) := by unfold RgC; infer_instance
def dIR3 (a : DA) : DI := fun ρ τ => (a ρ τ).bind fun x τ1 => match x with
  | [.int i, .int j, .int c] => if RgC i j c (Builtin.Range.rangeSize i j c).toNat then .ok (rangeC i c (Builtin.Range.rangeSize i j c).toNat) τ1 else .no
  | _ => .no
theorem ItR.rangeC {G : Hp} {lo c : Int} {n : Nat} : ItR W G (Itc lo c n) (Np.rangeC lo c n) := by
  have w := walk_rangeC (lo := lo) (c := c) (n := n)
  have ln : (Np.rangeC lo c n).length = n := by unfold Np.rangeC; simp
  refine ⟨fun i H s hi => w.goes i H (by rw [ln] at hi; exact hi) trivial, fun H s => by rw [ln]; exact w.stops H trivial, fun i d Gc H x H' s s' hd y => ?_⟩
  have hi : i < n := by have := (List.getElem?_eq_some_iff.mp hd).1; rw [ln] at this; exact this
  obtain ⟨rfl, rfl⟩ := w.yields i H x H' hi trivial y
  unfold Np.rangeC at hd
  rw [List.getElem?_map, List.getElem?_range hi] at hd
  cases hd
  exact ⟨Gc, ext_n, s', .int _⟩
theorem di_range3 (hr : DnA W Wx tr δr) : DnI W Wx (iRng3 tr) (dIR3 δr) := fun tp G H σ ρ τ Q E P =>
  hr _ _ _ _ _ _ _ E (P.bind fun a τ1 x G1 H1 e1 E1 r1 P1 => by
    split at P1
    · rename_i i j c
      by_cases h : RgC i j c (Builtin.Range.rangeSize i j c).toNat
      · rw [if_pos h] at P1
        cases r1 with | cons r rs =>
        cases rs with | cons r' rs =>
        cases rs with | cons r'' rs =>
        cases rs
        exact ⟨i, j, c, _, by rw [r.int_of, r'.int_of, r''.int_of], h, P1 _ G1 H1 Ext.refl E1 ItR.rangeC⟩
      · rw [if_neg h] at P1
        exact P1.elim
    · exact P1.elim)
end

theorem upd_twice {H : Hp} {a : Addr} {o u : HO} : upd (upd H a o) a u = upd H a u := by
  funext b
  by_cases h : b = a
  · rw [h, upd_same, upd_same]
  · rw [upd_ne h, upd_ne h, upd_ne h]
theorem putF_le (f : Str) (v : V) : ∀ fs : List (Str × V), (putF f v fs).length ≤ fs.length + 1
  | [] => Nat.le_refl _
  | (g, x) :: r => by
    unfold putF
    split
    · simp
    · have := putF_le f v r
      simp
      omega
theorem putF_lt {f : Str} {v : V} {fs : List (Str × V)} {n : Nat} (h : fs.length < n) : (putF f v fs).length < n + 1 := by
  have := putF_le f v fs
  omega

/-! min of three -/
def c3 (g : DD → DD → DD → Option DD) : List DD → Option DD
  | [a, b, c] => g a b c
  | _ => none
def min3 (i j k : Int) : Int := if k < (if j < i then j else i) then k else if j < i then j else i
def gMin3 : DD → DD → DD → Option DD
  | .int i, .int j, .int k => some (.int (min3 i j k))
  | _, _, _ => none
theorem nuMin2_int (i j : Int) : nuMin2 (.int i) (.int j) = some (.int (if j < i then j else i)) := by
  show Option.map _ (some (decide (j < i))) = _
  by_cases h : j < i <;> simp [h]
theorem cd_min3 {W : Wp} : CallD W (rNuC3 nuMin3) (c3 gMin3) := by
  intro G H x a c Q s ra e k
  unfold c3 at e
  split at e
  · rename_i d1 d2 d3
    cases ra with | cons r1 rs =>
    cases rs with | cons r2 rs =>
    cases rs with | cons r3 rs =>
    cases rs
    cases d1 <;> cases d2 <;> cases d3 <;> first | (cases e; done) | skip
    cases e
    refine ⟨_, _, _, .int (min3 _ _ _), by rw [r1.int_of, r2.int_of, r3.int_of], ?_, k _ G H ext_n s (.int _)⟩
    unfold nuMin3
    rw [nuMin2_int, Option.bind_some, nuMin2_int]
    rfl
  · cases e
end Np

set_option Elab.async false
set_option linter.all false
set_option maxRecDepth 100000
set_option maxHeartbeats 4000000
/-! an own class over a builtin one whose __new__ comes from further up (KeyError) -/
namespace Np
open PySem PySem.Spec PyProof.Rows L2 PySem.HandSPX
/-- the __init__ that a builtin class has of its own -/
structure IniF (B initId : String) : Prop where
  pl : plainId initId = true
  en : entryFor table initId = some Builtin.«BaseException.__init__»
  sp : splitId initId = some (B, "__init__")
  kd : builtinKind initId = some .slot
  rw_ : Manifest.signature? initId = some ⟨.positional, "*", B, .self, [⟨"args", .varPos, false⟩]⟩
  ns : (B != "*") = true
/-- the __new__ by which a class with these bases is made -/
structure NewF (newId : String) (bm : List Value) : Prop where
  ex : ∃ B0 i0 bm0, ExcBaseFacts B0 newId i0 bm0 ∧ bm.contains (.type B0) = true
  na : bm.contains (.type "AttributeError") = false
  nn : bm.contains (.type "NameError") = false
theorem IniF.of {B n i : String} {bm : List Value} (F : ExcBaseFacts B n i bm) : IniF B i := ⟨F.init.plain, F.initEntry, F.initSplit, F.initKind, F.initRow, F.noStar⟩
theorem NewF.of {B n i : String} {bm : List Value} (F : ExcBaseFacts B n i bm) : NewF n bm := ⟨⟨B, i, bm, F, F.hasB⟩, F.noAttr, F.noName⟩
section
variable {md : Model} {ar : Around} {ek : Value → Shared → Prop} {hq0 : Heap} {gs : Array GenState} {dr : Drawn} {tk : Nat} {os : OsState}
variable {nm qn : Str} {cl nsp : Addr} {bs tl : List Value} {hd : Bool} {sn : List Str} {sub : List Value} {ab : Bool} {col : Option Bool} {dd : Option Addr} {k0 k1 k2 k3 k5 : Option Value} {B0 nw ini : String} {bm0 : List Value}
theorem kx_check_new (G : ExcBaseFacts B0 nw ini bm0) (hB : tl.contains (.type B0) = true) {more : List Value} {Q : Unit → Shared → Prop}
    (at_ : hq0.get? cl = some (excClassObj nm qn cl nsp bs tl hd sn sub ab col dd k0 k1 k2 k3 k5 nw)) (fin : Q () ⟨hq0, gs, dr, tk, os⟩) : wpAny md ar (checkBuiltinCall nw ⟨.ref cl :: more, []⟩) Q ek ⟨hq0, gs, dr, tk, os⟩ := by
  have inB : (Value.ref cl :: tl).contains (.type B0) = true := by rw [List.contains_cons, hB, Bool.or_true]
  have star := G.noStar
  simp only [checkBuiltinCall, G.newKind, G.newSplit, G.newRow]
  repeat (first | refine wpAny_loadPart_at at_ ?_ | (refine wpAny_isSubtype_exc at_ ?_; rw [inB]) | refine wpAny_staticBase_exc at_ ?_ | refine wpAny_madeBy_exc at_ ?_ | simp only [bne_self_eq_false, Bool.false_eq_true, if_false] | wp_step)
  exact fin
theorem kx_check_init {B ini : String} (G : IniF B ini) (hB : tl.contains (.type B) = true) {x : Addr} {ox : Obj} {more : List Value} {Q : Unit → Shared → Prop}
    (at_ : hq0.get? cl = some (excClassObj nm qn cl nsp bs tl hd sn sub ab col dd k0 k1 k2 k3 k5 nw)) (ax : hq0.get? x = some ox) (cx : ox.cls = .ref cl) (fin : Q () ⟨hq0, gs, dr, tk, os⟩) :
    wpAny md ar (checkBuiltinCall ini ⟨.ref x :: more, []⟩) Q ek ⟨hq0, gs, dr, tk, os⟩ := by
  have inB : (Value.ref cl :: tl).contains (.type B) = true := by rw [List.contains_cons, hB, Bool.or_true]
  have star := G.ns
  simp only [checkBuiltinCall, G.kd, G.sp, G.rw_]
  repeat (first | (with_reducible refine wpAny_loadPart_at ax ?_; rw [cx]) | with_reducible refine wpAny_loadPart_at at_ ?_ | (with_reducible refine wpAny_isSubtype_exc at_ ?_; rw [inB]) | wp_step)
  refine wpAny_onRaise ?_
  have z : ∀ (a b : String) (n : Nat), Bind.check ⟨.positional, "*", B, .self, [⟨"args", .varPos, false⟩]⟩ a b n (List.map (fun y => y.fst) ({ pos := Value.ref x :: more } : Args).kw) = pure () := fun a b n => check_star_args _ _ _ _ _ _
  rw [z]
  exact wpAny_pure fin
end
section
variable {prog : Program} {w : World} {ar : Around} {ek : Value → Shared → Prop} {R : Result → Shared → Prop} {hq0 : Heap} {gs : Array GenState} {dr : Drawn} {tk : Nat} {os : OsState}
variable {nm qn : Str} {cl nsp : Addr} {bs tl : List Value} {hd : Bool} {sn : List Str} {sub : List Value} {ab : Bool} {col : Option Bool} {dd : Option Addr} {k0 k1 k2 k3 k5 : Option Value} {B0 nw i0 : String} {bm0 : List Value}
theorem kx_new (G : ExcBaseFacts B0 nw i0 bm0) (hB : tl.contains (.type B0) = true) (hA : tl.contains (.type "AttributeError") = false) (hN : tl.contains (.type "NameError") = false) {more : List Value}
    (at_ : hq0.get? cl = some (excClassObj nm qn cl nsp bs tl hd sn sub ab col dd k0 k1 k2 k3 k5 nw))
    (fin : R (.ok (.ret (.ref (hq0.objs.size + 1)))) ⟨(hq0.push { cls := .type "tuple", data := .seq more.toArray }).push { cls := .ref cl, data := .fields #[.ref hq0.objs.size, .none, .none, .none, .bool false, .none] }, gs, dr, tk, os⟩) (few : more.length ≤ sizeLine) :
    codeAny (model prog w) ar (.builtin nw ⟨.ref cl :: more, []⟩) R ⟨hq0, gs, dr, tk, os⟩ := by
  have ends := G.ends
  have cB : (Value.ref cl :: tl).contains (.type B0) = true := by rw [List.contains_cons, hB, Bool.or_true]
  have cA : (Value.ref cl :: tl).contains (.type "AttributeError") = false := by rw [List.contains_cons, hA]; rfl
  have cN : (Value.ref cl :: tl).contains (.type "NameError") = false := by rw [List.contains_cons, hN]; rfl
  refine PySem.codeAny_builtinAt G.entry ?_
  unfold Builtin.«BaseException.__new__»
  refine PySem.wpAt_bind ?_
  show PySem.wpAt _ _ _ (stack >>= _) _ _ _
  refine PySem.wpAt_bind (PySem.wpAt_stack fun p below => PySem.wpAt_of_wpAny ?_)
  wp_walk
  refine PySem.wpAt_of_wpAny ?_
  rw [G.owner]
  repeat (first | with_reducible refine wpAny_madeHere_exc G.canon at_ ?_ | with_reducible refine wpAny_loadPart_at at_ ?_ | (with_reducible refine wpAny_isSubtype_exc at_ ?_; first | rw [cB] | rw [cA] | rw [cN]) | wp_step)
  show R _ _
  rw [Heap.size_push]
  exact fin
theorem kx_type_call (G : ExcBaseFacts B0 nw i0 bm0) (hB : tl.contains (.type B0) = true) (hA : tl.contains (.type "AttributeError") = false) (hN : tl.contains (.type "NameError") = false) {more : List Value} {fI : Addr} {Q : Fin → Shared → Prop}
    (at_ : hq0.get? cl = some (excClassObj nm qn cl nsp bs tl hd sn sub ab col dd k0 k1 k2 k3 k5 nw))
    (lk : W.Looks (model prog w) hq0 (typeLookup (.ref cl) "__init__") (some (.ref fI))) (bd : ∀ self, W.Looks (model prog w) hq0 (bindSpecial (.ref fI) self) (.ref fI, [self])) (few : more.length ≤ sizeLine)
    (fin : codeAny (model prog w) ar (.call (.ref fI) ⟨.ref (hq0.objs.size + 1) :: more, []⟩)
      (fun r s' => match r with | .ok (.ret v) => v = .none ∧ Q (.done (.ret (.ref (hq0.objs.size + 1)))) s' | .ok _ => False | .error e => ek e s') ⟨(hq0.push (W.kdv_tup more)).push (excO cl hq0.objs.size), gs, dr, tk, os⟩) :
    wpAny (model prog w) ar (Builtin.«type.__call__» ⟨.ref cl :: more, []⟩) Q ek ⟨hq0, gs, dr, tk, os⟩ := by
  repeat (first | with_reducible refine wpAny_loadPart_at at_ ?_ | with_reducible refine wpAny_madeBy_exc at_ ?_ | wp_step)
  refine codeAny_call_builtin_code (Code.quiet_builtin _ G.quiet) (kx_check_new G hB at_ ?_)
  refine kx_new G hB hA hN at_ ?_ few
  show wpAny _ _ _ _ _ _
  have kp : ∀ b o, hq0.get? b = some o → ((hq0.push (W.kdv_tup more)).push (excO cl hq0.objs.size)).get? b = some o := fun b o e => Heap.get?_push_of_some _ (Heap.get?_push_of_some _ e)
  have at1 := kp _ _ at_
  have got : ((hq0.push (W.kdv_tup more)).push (excO cl hq0.objs.size)).get? (hq0.objs.size + 1) = some (excO cl hq0.objs.size) := by heap_get
  have own : (Value.ref cl :: tl).contains (.ref cl) = true := by simp
  have lk1 := lk.keeps kp
  have bd1 := (bd (.ref (hq0.objs.size + 1))).keeps kp
  unfold isInstance
  repeat (first | with_reducible refine wpAny_loadPart_at got ?_ | (with_reducible refine wpAny_isSubtype_exc at1 ?_; rw [own]) | wp_step)
  show wpAny _ _ (typeLookup (.ref cl) _) _ _ _
  refine lk1.at ?_
  refine wpAny_holding (wpAny_bind (bd1.at ?_))
  refine wpAny_bind (wpAny_call (codeAny_mono fin fun r s' z => ?_))
  rcases r with e | (v | _ | _ | _) <;> first | exact z | exact z.elim | skip
  obtain ⟨rfl, z⟩ := z
  first
    | exact wpAny_pure (wpAny_pure z)
    | (wp_walk; exact z)
theorem kx_call (Z : NewF nw tl) {more : List Value} {fI : Addr} (at_ : hq0.get? cl = some (excClassObj nm qn cl nsp bs tl hd sn sub ab col dd k0 k1 k2 k3 k5 nw))
    (lk : W.Looks (model prog w) hq0 (typeLookup (.ref cl) "__init__") (some (.ref fI))) (bd : ∀ self, W.Looks (model prog w) hq0 (bindSpecial (.ref fI) self) (.ref fI, [self])) (few : more.length ≤ sizeLine)
    (fin : codeAny (model prog w) (ar.under (.builtin "type.__call__" ⟨.ref cl :: more, []⟩)) (.call (.ref fI) ⟨.ref (hq0.objs.size + 1) :: more, []⟩) (W.InitBack (hq0.objs.size + 1) R) ⟨(hq0.push (W.kdv_tup more)).push (excO cl hq0.objs.size), gs, dr, tk, os⟩) :
    codeAny (model prog w) ar (.call (.ref cl) ⟨more, []⟩) R ⟨hq0, gs, dr, tk, os⟩ := by
  obtain ⟨⟨B0, i0, bm0, G, hB⟩, hA, hN⟩ := Z
  have l1 := tc_lookup
  have l2 := tc_bind (.ref cl)
  have ty : (⟨hq0, gs, dr, tk, os⟩ : Shared).TypeIs (.ref cl) "type" := ⟨_, at_, rfl⟩
  refine codeAny_of_tree ?_
  show wpAny _ _ (callAny (.ref cl) _) _ _ _
  repeat (any_goals (first | assumption | with_reducible refine wpAny_loadPart_at at_ ?_ | wp_step))
  refine ⟨rfl, ?_⟩
  refine codeAny_call_builtin_at (Code.quiet_builtin _ (by decide +kernel)) entry_typeCall (wpAny_check_type_call_sub at_ (kx_type_call G hB hA hN at_ lk bd few ?_))
  refine codeAny_mono fin fun r s' z => ?_
  rcases r with e | (v | _ | _ | _) <;> exact z
theorem kx_init {B ini : String} (G : IniF B ini) (hB : tl.contains (.type B) = true) {x t0 : Addr} {more : List Value}
    (at_ : hq0.get? cl = some (excClassObj nm qn cl nsp bs tl hd sn sub ab col dd k0 k1 k2 k3 k5 nw)) (ax : hq0.get? x = some (excO cl t0)) (few : more.length ≤ sizeLine)
    (fin : ∀ h' t1, (∀ b o, b ≠ x → hq0.get? b = some o → h'.get? b = some o) → h'.get? x = some (excO cl t1) → R (.ok (.ret .none)) ⟨h', gs, dr, tk, os⟩) :
    codeAny (model prog w) ar (.call (.builtin ini) ⟨.ref x :: more, []⟩) R ⟨hq0, gs, dr, tk, os⟩ := by
  refine codeAny_call_builtin G.pl G.en (kx_check_init G hB at_ ax rfl ?_)
  wp_walk
  refine fin _ hq0.objs.size (fun b o hb ho => ?_) ?_
  · rw [Heap.get?_update_other _ _ (Ne.symm hb)]
    exact Heap.get?_push_of_some _ ho
  · rw [Heap.get?_update_self _ (Heap.get?_push_of_some _ ax) rfl]
    rfl
end
end Np

set_option Elab.async false
set_option linter.all false
set_option maxRecDepth 100000
set_option maxHeartbeats 4000000
namespace Np
open PySem PySem.Spec PyProof.Rows L2
/-! ### own exceptions over any builtin base, whose __init__ is a def -/
section
open PySem.W Builtin Builtin.ObjectAttr
variable {prog : Program} {w : World} {A : Around} {E : Value → Shared → Prop} {hp : Heap} {g : Array GenState} {d : Drawn} {t : Nat} {os : OsState}
/-- a first field: the dict comes to be -/
theorem own_first {name : Str} {tk : Tok} {v : Value} {x C : Addr} {fv : Array Value} {cd : ClassData} {b : Bool} {Q : Fin → Shared → Prop} (hx : hp.get? x = some { cls := .ref C, data := .fields fv })
    (hcls : PySem.W.Looks (model prog w) hp (classData C) cd) (hh : cd.hasDict = true)
    (hq : ∀ h' tk' dx, (∀ b o, b ≠ x → hp.get? b = some o → h'.get? b = some o) → hp.objs.size ≤ dx → dx ≠ x → h'.get? x = some { cls := .ref C, dict := some dx, data := .fields fv } →
      h'.Ns1 dx (fun y => if y = name then some v else none) → Q (.done (.ret .none)) ⟨h', g, d, tk', os⟩) :
    wpAny (model prog w) A (storeInOwnDict (.ref x) (.ref C) (.str name tk) name v b) Q E ⟨hp, g, d, t, os⟩ := by
  have hxs : x ≠ hp.objs.size := Nat.ne_of_lt (Heap.lt_size hx)
  obtain ⟨nm, bs, mro, ns, qn, hd, sn, sb, ab, col, del⟩ := cd
  dsimp only at hh
  subst hh
  unfold storeInOwnDict ownDictForStores
  repeat (first | with_reducible refine PySem.HandSPX.store_in_new ?_ ?_ | with_reducible refine wpAny_loadPart_at hx ?_ | with_reducible refine hcls.at ?_ | wp_step)
  · exact ⟨_, #[], _, (Heap.get?_update_ne _ _ _ _ hxs.symm).trans (Heap.get?_push_at rfl rfl), rfl, fun e he => absurd he (by simp), fun _ => rfl⟩
  · intro h' tk' hn' hs
    have hx₁ : (hp.push { cls := .type "dict", data := .dict #[] }).get? x = some { cls := .ref C, data := .fields fv } := Heap.get?_push_of_some _ hx
    refine hq h' tk' hp.objs.size (fun b o hb ho => ?_) (Nat.le_refl _) hxs.symm ?_ hn'
    · exact (hs.2 b (Nat.ne_of_lt (Heap.lt_size ho))).trans ((Heap.get?_update_ne _ _ _ _ hb).trans (Heap.get?_push_of_some _ ho))
    · exact (hs.2 x hxs).trans (Heap.get?_update_self _ hx₁ rfl)
/-- a further field -/
theorem own_more {name : Str} {tk : Tok} {v : Value} {x C dx : Addr} {fv : Array Value} {cd : ClassData} {b : Bool} {m0 : Str → Option Value} {nl : List Str} {Q : Fin → Shared → Prop} (hx : hp.get? x = some { cls := .ref C, dict := some dx, data := .fields fv })
    (hns : hp.Ns1 dx m0) (hw : Within m0 nl) (hz : nl.length ≤ 1000) (hcls : PySem.W.Looks (model prog w) hp (classData C) cd) (hh : cd.hasDict = true)
    (hq : ∀ h' tk', (∀ b o, b ≠ dx → hp.get? b = some o → h'.get? b = some o) → h'.Ns1 dx (fun y => if y = name then some v else m0 y) → Q (.done (.ret .none)) ⟨h', g, d, tk', os⟩) :
    wpAny (model prog w) A (storeInOwnDict (.ref x) (.ref C) (.str name tk) name v b) Q E ⟨hp, g, d, t, os⟩ := by
  obtain ⟨nm, bs, mro, ns, qn, hd, sn, sb, ab, col, del⟩ := cd
  dsimp only at hh
  subst hh
  unfold storeInOwnDict ownDictForStores
  repeat (first | with_reducible refine PySem.OEX.store_in_old hns hw hz ?_ | with_reducible refine wpAny_loadPart_at hx ?_ | with_reducible refine hcls.at ?_ | wp_step)
  intro h' tk' hn' hs
  exact hq h' tk' (fun b o hb ho => (hs.2 b hb).trans ho) hn'
end
/-- what the written part says of a class over the base B -/
structure OexB (B newId initId : String) (bmB : List Value) (K : PySem.W.Frag) (C : Addr) : Prop where
  fb : NewF newId bmB ∧ IniF B initId ∧ bmB.contains (.type B) = true
  sf : StoreFacts B bmB "object.__setattr__" "object"
  cls : ∃ nm q N bs bm sn sub ab col dd k0 k1 k2 k3 k5, K.lookup C = some (excClassObj nm q C N bs bm true sn sub ab col dd k0 k1 k2 k3 k5 newId) ∧ PySem.W.excTail bmB bm = true
  sa : PySem.W.findIn K (.ref C) "__setattr__" = some (some (.builtin "object.__setattr__"))
  exC : PySem.W.subIn K (.ref C) (.type "BaseException") = some true
  tyC : PySem.W.typeIn K (.ref C) = some (.type "type")
  kC : PySem.W.keepIn K (.ref C) = true

theorem NewF.up {n : String} {bmB bm : List Value} (Z : NewF n bmB) (h : PySem.W.excTail bmB bm = true) : NewF n bm := by
  obtain ⟨⟨B0, i0, bm0, G, hB⟩, hA, hN⟩ := Z
  exact ⟨⟨B0, i0, bm0, G, by rw [PySem.W.excTail_contains _ bm h]; exact hB⟩, by rw [PySem.W.excTail_contains _ bm h]; exact hA, by rw [PySem.W.excTail_contains _ bm h]; exact hN⟩
section
variable {B newId initId : String} {bmB : List Value} {K : PySem.W.Frag} {C : Addr}
theorem OexB.has (T : OexB B newId initId bmB K C) : ∃ cd, PySem.W.clsIn K C = some cd ∧ cd.hasDict = true ∧ PySem.W.excOver K C bmB = true := by
  obtain ⟨nm, q, N, bs, bm, sn, sub, ab, col, dd, k0, k1, k2, k3, k5, hC, hb⟩ := T.cls
  have e : PySem.W.clsIn K C = some { name := nm, bases := bs, mro := .ref C :: bm, ns := N, qualname := q, hasDict := true, slotNames := sn, subclasses := sub, abstract := ab, collection := col, hasDel := false } := by unfold PySem.W.clsIn; rw [hC] <;> rfl
  refine ⟨_, e, rfl, ?_⟩
  unfold PySem.W.excOver
  rw [e]
  show (C == C && PySem.W.excTail bmB bm) = true
  rw [hb, Bool.and_true]
  exact beq_self_eq_true C
end
section
variable {X : Cx} {pins : List (Addr × Obj)} {σ : L2.St} {H : Hp} {s : Shared} {a C dx : Addr} {f : Str} {y : V} {u : Value} {fs : List (Str × V)} {E : Value → Shared → Prop} {A : Around} {B newId initId : String} {bmB : List Value}
/-- self.f = y, the first one: all else stays as it is -/
theorem obst_first {Q : Unit → Shared → Prop} (T : OexB B newId initId bmB X.K C) (I : L2.Inv X pins σ H s) (e : H a = some (exo a C none)) (hno : PySem.W.findIn X.K (.ref C) f = some none) (ry : RelV y u)
    (h : ∀ dx s', H dx = none → dx ≠ a → L2.Inv X pins σ (upd (upd H dx (exd dx [(f, y)])) a (exo a C (some dx))) s' → Q () s') : wpAny (model X.prog X.w) A (setAttr (.ref a) f u) Q E s := by
  obtain ⟨cd, hcl, hhd, hov⟩ := T.has
  obtain ⟨t1, ho⟩ := exo_at I.hok e
  obtain ⟨hp, g, d, t, os⟩ := s
  have J : PySem.W.InstAt hp a { cls := .ref C, dict := none, data := .fields #[.ref t1, .none, .none, .none, .bool false, .none] } C none := ⟨ho, rfl, rfl, trivial⟩
  refine PySem.W.set_plain I.kIn J T.sa (PySem.W.osa_openX (s := ⟨hp, g, d, t + 1, os⟩) T.sf I.kIn J hov (NoAttr.taker hno) fun b => ?_)
  refine own_first (cd := cd) ho (PySem.W.looks_clsIn I.kIn hcl) hhd fun h' tk' dx k dn dne hx hn => ?_
  have hnd : H dx = none := I.hok.fresh dn
  have nd : ∀ {b : Addr} {o : Obj}, hp.get? b = some o → b ≠ dx := fun {b o} q => Nat.ne_of_lt (Nat.lt_of_lt_of_le (Heap.lt_size q) dn)
  have na : ∀ {b : Addr}, H b = none → b ≠ a := fun {b} n z => by
    rw [z, e] at n
    cases n
  have two : ∀ {b : Addr}, b ≠ a → b ≠ dx → upd (upd H dx (exd dx [(f, y)])) a (exo a C (some dx)) b = H b := fun {b} h1 h2 => by rw [upd_ne h1, upd_ne h2]
  have Un1 : Un X.fs [] H (upd (upd H dx (exd dx [(f, y)])) a (exo a C (some dx))) hp h' := {
    keep := fun b o q n _ _ => k b o (na n) q
    slot := fun b o q n _ _ => ⟨o.slots, k b o (na n) q⟩
    free := fun b o q n _ => by rw [two (na n) (nd q)]; exact n
    there := fun b o q _ => by
      by_cases hb : b = a
      · exact ⟨_, by rw [hb]; exact hx⟩
      · exact ⟨o, k b o hb q⟩
    tups := fun b xs q => by rw [two (at_ne e q exo_tup) (ne_of_none q hnd)]; exact q
    frzs := fun b o v q => by rw [two (at_ne e q exo_frz) (ne_of_none q hnd)]; exact q
    tbls := fun b ps q => ⟨#[], by rw [two (at_ne e q exo_tbl) (ne_of_none q hnd), q]; simp⟩ }
  refine h dx _ hnd dne (I.un (t' := tk') Un1 fun b o q => ?_)
  by_cases hb : b = a
  · subst hb
    rw [upd_same] at q
    cases q
    exact exo_ok hx
  · rw [upd_ne hb] at q
    by_cases hd : b = dx
    · subst hd
      rw [upd_same] at q
      cases q
      exact exd_ok hn (relO_put (fs := []) ry fun g => True.intro)
    · rw [upd_ne hd] at q
      refine (I.hok b o q).stay (fun c v hc z => k c v ?_ z) (fun c hc => by rw [two (at_ne e hc exo_own) (ne_of_none hc hnd)]; exact hc) (fun c xs hc => by rw [two (at_ne e hc exo_tup) (ne_of_none hc hnd)]; exact hc)
      rcases hc with hc | hc
      · rw [hc]; exact hb
      · exact at_ne e hc exo_own
theorem obst_more {Q : Unit → Shared → Prop} (T : OexB B newId initId bmB X.K C) (I : L2.Inv X pins σ H s) (e : H a = some (exo a C (some dx))) (ed : H dx = some (exd dx fs)) (hl : fs.length ≤ 900) (hno : PySem.W.findIn X.K (.ref C) f = some none) (ry : RelV y u)
    (h : ∀ s', L2.Inv X pins σ (upd H dx (exd dx ((f, y) :: fs))) s' → Q () s') : wpAny (model X.prog X.w) A (setAttr (.ref a) f u) Q E s := by
  obtain ⟨cd, hcl, hhd, hov⟩ := T.has
  obtain ⟨t1, ho⟩ := exo_at I.hok e
  obtain ⟨mA, hns, rel⟩ := exd_at I.hok ed
  have hw := within_of rel
  obtain ⟨hp, g, d, t, os⟩ := s
  obtain ⟨oD, _, _, hoD, _, _⟩ := hns.count hw
  have J : PySem.W.InstAt hp a { cls := .ref C, dict := some dx, data := .fields #[.ref t1, .none, .none, .none, .bool false, .none] } C (some oD) := ⟨ho, rfl, rfl, hoD⟩
  refine PySem.W.set_plain I.kIn J T.sa (PySem.W.osa_openX (s := ⟨hp, g, d, t + 1, os⟩) T.sf I.kIn J hov (NoAttr.taker hno) fun b => ?_)
  refine own_more (cd := cd) ho hns hw (by rw [List.length_map]; omega) (PySem.W.looks_clsIn I.kIn hcl) hhd fun h' tk' k hn => ?_
  have hd : ∃ o, h'.get? dx = some o := by
    obtain ⟨o, _, _, e', _⟩ := hn
    exact ⟨o, e'⟩
  exact h _ (I.write (t' := tk') (x := dx) (e := dx) (o := exd dx ((f, y) :: fs)) (by rw [ed]; exact True.intro) (.inl rfl) k hd (exd_ok hn (relO_put ry rel)))
/-- the base's __init__ -/
theorem obinit {us : List Value} {Q : Value → Shared → Prop} (T : OexB B newId initId bmB X.K C) (I : L2.Inv X pins σ H s) (e : H a = some (exo a C none)) (hl : us.length ≤ sizeLine) (h : ∀ s', L2.Inv X pins σ H s' → Q .none s') :
    wpAny (model X.prog X.w) A (call (.builtin initId) (.ref a :: us)) Q E s := by
  obtain ⟨nm, q, N, bs, bm, sn, sub, ab, col, dd, k0, k1, k2, k3, k5, hC, hbm⟩ := T.cls
  obtain ⟨t1, ho⟩ := exo_at I.hok e
  obtain ⟨hp, g, d, t, os⟩ := s
  refine wpAny_call (kx_init T.fb.2.1 (by rw [PySem.W.excTail_contains _ bm hbm]; exact T.fb.2.2) (I.kIn _ _ hC) ho hl fun h' t2 k hx => ?_)
  have J := I.write (t' := t) (x := a) (e := a) (o := exo a C none) (by rw [e]; exact True.intro) (.inl rfl) k ⟨_, hx⟩ (exo_ok hx)
  have eu : upd H a (exo a C none) = H := by
    funext b
    by_cases hb : b = a
    · rw [hb, upd_same, e]
    · rw [upd_ne hb]
  rw [eu] at J
  exact h _ J
end

/-! ### bases, and the rules -/
structure Bas where
  B : String
  newId : String
  initId : String
  bm : List Value
abbrev OexO (b : Bas) (K : PySem.W.Frag) (C : Addr) : Prop := OexB b.B b.newId b.initId b.bm K C
structure BasOk (b : Bas) : Prop where
  typ : typeOf (.type b.B) = pure (.type "type")
  stub : Manifest.isStub b.B = false
  hand : PySem.W.handedIn (.builtin b.initId) = true
  boot : bootBuiltins (Str.ofString b.B) = some (.type b.B)
/-- B.__init__(self, ..) -/
def tBI (b : Bas) (K : PySem.W.Frag) (ta : TA) : TE := fun σ H Q => ta σ H fun vs H1 => ∃ (a C : Addr) (ws : List V), vs = .ref a :: ws ∧ ws.length ≤ 1000 ∧ OexO b K C ∧ H1 a = some (exo a C none) ∧ Q .non H1
/-- self.f = e -/
def tOstB (b : Bas) (K : PySem.W.Frag) (f : Str) (to te : TE) : TS := fun D σ H => te σ H fun y H1 => to σ H1 fun x H2 => ∃ a C : Addr, x = .ref a ∧ OexO b K C ∧ PySem.W.findIn K (.ref C) f = some none ∧
  ((H2 a = some (exo a C none) ∧ ∀ dx, H2 dx = none → dx ≠ a → D.nx σ (upd (upd H2 dx (exd dx [(f, y)])) a (exo a C (some dx)))) ∨
    ∃ (dx : Addr) (fs : List (Str × V)), H2 a = some (exo a C (some dx)) ∧ H2 dx = some (exd dx fs) ∧ fs.length ≤ 900 ∧ D.nx σ (upd H2 dx (exd dx ((f, y) :: fs))))
section
variable {X : Cx} {o e : Expr} {es : List Expr} {to te : TE} {ta : TA} {f : Str} {p p' p1 p2 pos : Pos} {b : Bas}
theorem pe_binitB (K : PySem.W.Frag) {x : Str} {pl : Sem Bool} (hb : BasOk b) (hx : x = Str.ofString b.B) (hm : X.mg x = none) (vV : PySem.W.findCls X.K (.type b.B) (.type "type") "__init__" = some (.val (.builtin b.initId))) (ha : PA X (e :: es) ta) (hg : Gl X x := by rfl)
    (hn : x ≠ "__name__" := by decide +kernel) (hdb : (x == ("__debug__" : Str)) = false := by decide +kernel)
    (hc : eval (.Call (.Attribute (.Name x p1) "__init__" p2) (e :: es) [] pos) X.env = (do
      let who ← eval (.Name x p1) X.env
      standAt p2.atName
      let (g, ahead) ← holding [who] (getMethod who "__init__" pl)
      callWith pos g ahead (backTo pos (starEach (e :: es) X.env)) (backToKw pos (keywordEach [] X.env))) := by rfl)
    (hs : starEach (e :: es) X.env = (false, eval e X.env) :: starEach es X.env := by rfl) (hp : (backTo pos (starEach es X.env)).any (·.1) = false := by rfl) (hK : X.K = K := by rfl) :
    PE X (.Call (.Attribute (.Name x p1) "__init__" p2) (e :: es) [] pos) (tBI b K ta) := by
  subst hK
  refine ⟨fun pins s σ H Q I h => ?_⟩
  refine PySem.W.methodCall_KW (ld_blt I hg hm (by rw [hx]; exact hb.boot) ?_ hn hdb) hc
  obtain ⟨m, fr⟩ := I.fr
  refine PySem.W.method_type fr I.ok.mod.kin hb.typ hb.stub vV hb.hand ?_
  show wpAny _ _ (callWith pos (Value.builtin b.initId) [] (backTo pos (starEach (e :: es) X.env)) []) _ _ _
  refine PyProof.Rows.callWith_method1 (L2.thn (ha.run pos pins _ σ H _ (I.tok _) h) fun us s1 hh => ?_) hs hp
  obtain ⟨vs, H1, I1, r1, a, C, ws, ev, hl, T', ea, q⟩ := hh
  subst ev
  cases r1 with
  | @cons _ u0 _ ur ra rw' =>
    obtain rfl : u0 = Value.ref a := ra
    exact obinit T' I1 ea (by rw [← Paired.length rw', sizeLine_eq]; omega) fun s' J => ⟨.non, H1, J, rfl, q⟩
theorem ps_ostB (K : PySem.W.Frag) (ho : PE X o to) (he : PE X e te) (hs : swapsWith e (some (.Attribute o f p')) pos.line X.env = pure false := by rfl) (hK : X.K = K := by rfl) : PS X (.Assign [.Attribute o f p'] e pos) (tOstB b K f to te) := by
  subst hK
  refine ⟨fun pins s σ H D I h => ?_⟩
  refine plainObj_wpAny_Assign_Attribute (L2.thn (he.run pins s σ H _ I h) fun v s1 hh => ?_) hs
  obtain ⟨y, H1, I1, r1, q1⟩ := hh
  refine L2.thn (ho.run pins s1 σ H1 _ I1 q1) fun u s2 hh => ?_
  obtain ⟨x, H2, I2, r2, a, C, ex, T, hno, q⟩ := hh
  subst ex
  obtain rfl : u = Value.ref a := r2
  rcases q with ⟨ea, q⟩ | ⟨dx, fs, ea, ed, hl, q⟩
  · exact obst_first T I2 ea hno r1 fun dx s' n ne J => ⟨σ, _, J, q dx n ne⟩
  · exact obst_more T I2 ea ed hl hno r1 fun s' J => ⟨σ, _, J, q⟩
theorem pmk_oexB {CX : CXT} {x : Str} {C fI : Addr} {k : Nat} {fd : FuncData} {ps : List Str} {sp : Sp} {ds : List Value} {dvs : List V} (T : OexO b X.K C) (iC : PySem.W.findIn X.K (.ref C) "__init__" = some (some (.ref fI))) (tI : PySem.W.typeIn X.K (.ref fI) = some (.type "function"))
    (F1 : FnOk X.prog X.w X.K X.mg X.base CX k fI fd ps sp) (hr : Room (k + 1) X.A) (hb : Binds X.K fd ps ds) (hd : Vals dvs ds) (hx : Passes CX X (fun _ _ _ => False)) (hg : Gl X x) (hm : X.mg x = some (.ref C)) (ha : PA X (e :: es) ta)
    (hdb : (x == ("__debug__" : Str)) = false := by decide) (he : starEach (e :: es) X.env = (false, eval e X.env) :: starEach es X.env := by rfl) (hpl : (backTo pos (starEach es X.env)).any (·.1) = false := by rfl) :
    PMk X (.Call (.Name x p) (e :: es) [] pos) (tMkO C sp dvs ta) := by
  intro pins s σ H Q I h
  obtain ⟨nm, q, N, bs, bm, sn, sub, ab, col, dd, k0, k1, k2, k3, k5, hC, hbm⟩ := T.cls
  refine wpAny_Call_Name_kw (ld_glob I hg hm ?_ hdb)
  refine PySem.W.callWith_K (h₀ := X.base) I.ok.mod.kin T.kC (L2.thn (ha.run pos pins s σ H _ I h) fun us s1 hh => ?_) he hpl
  obtain ⟨vs, H1, I1, r1, hz, q1⟩ := hh
  refine ⟨I1.kIn, ?_⟩
  show wpAny _ _ (call (.ref C) us) _ _ _
  obtain ⟨hp, g, dr, tk, os⟩ := s1
  obtain ⟨n0, hn0⟩ : ∃ n0, n0 = hp.objs.size := ⟨_, rfl⟩
  have hsz : hp.objs.size ≤ n0 + 1 := by omega
  have hq := q1 (n0 + 1) (I1.hok.fresh hsz)
  subst hn0
  have kk : ∀ b o, hp.get? b = some o → ((hp.push (PySem.W.kdv_tup us)).push (PySem.HandSPX.excO C hp.objs.size)).get? b = some o := fun b o e => Heap.get?_push_of_some _ (Heap.get?_push_of_some _ e)
  have hget : ((hp.push (PySem.W.kdv_tup us)).push (PySem.HandSPX.excO C hp.objs.size)).get? (hp.objs.size + 1) = some (PySem.HandSPX.excO C hp.objs.size) := by heap_get
  have I2 := I1.laid (t' := tk) (a := hp.objs.size + 1) (o := exo (hp.objs.size + 1) C none) (h' := (hp.push (PySem.W.kdv_tup us)).push (PySem.HandSPX.excO C hp.objs.size)) kk hsz (exo_ok hget)
  have r2 : Vals (V.ref (hp.objs.size + 1) :: (vs ++ dvs)) (Value.ref (hp.objs.size + 1) :: (us ++ ds)) := .cons rfl (r1.append hd)
  have hl : (Value.ref (hp.objs.size + 1) :: us ++ ds).length = ps.length := (r2.length.symm.trans (F1.len _ _ _ _ hq))
  have hus : us.length ≤ sizeLine := by rw [← Paired.length r1, sizeLine_eq]; omega
  refine wpAny_call (kx_call (T.fb.1.up hbm) (I1.kIn _ _ hC) (PySem.W.looks_findIn I1.kIn iC) (fun self => PySem.W.bind_fn I1.kIn self tI) hus
    (codeAny_mono (F1.run _ X.stack _ _ ⟨Value.ref (hp.objs.size + 1) :: us, []⟩ (Value.ref (hp.objs.size + 1) :: (us ++ ds)) _ _ (fun _ _ _ => False) (hr.make C us []) (I2.env0.make C us []) (hb _ (Value.ref (hp.objs.size + 1) :: us) I2.kIn hl) r2 hq) fun r s' hq' => ?_))
  cases r with
  | error er => exact hx pins σ _ _ er s' I2 hq'
  | ok fl =>
    cases fl with
    | ret u =>
      obtain ⟨v, H2, os2, bare2, un2, hok2, rv, ev, d, fs, ea, ed, hd1, q2⟩ := hq'
      subst ev
      obtain ⟨h2, g2, d2, t2, os'⟩ := s'
      exact ⟨rv, mk_end (raises_own T.exC T.tyC) I1 hsz kk un2 hok2 os2 bare2 ea ed hd1 q2⟩
    | next => exact False.elim hq'
    | brk => exact False.elim hq'
    | cont => exact False.elim hq'
end
def bIndex : Bas := ⟨"IndexError", "IndexError.__new__", "IndexError.__init__", [.type "IndexError", .type "LookupError", .type "Exception", .type "BaseException", .type "object"]⟩
theorem bIndex_ok : BasOk bIndex := ⟨by kernel_rfl, by decide +kernel, by decide +kernel, by decide +kernel⟩
def bOver : Bas := ⟨"OverflowError", "OverflowError.__new__", "OverflowError.__init__", [.type "OverflowError", .type "ArithmeticError", .type "Exception", .type "BaseException", .type "object"]⟩
theorem bOver_ok : BasOk bOver := ⟨by kernel_rfl, by decide +kernel, by decide +kernel, by decide +kernel⟩
abbrev FbOk (b : Bas) : Prop := NewF b.newId b.bm ∧ IniF b.B b.initId ∧ b.bm.contains (.type b.B) = true
abbrev SfOk (b : Bas) : Prop := StoreFacts b.B b.bm "object.__setattr__" "object"
theorem fbOk {b : Bas} (F : ExcBaseFacts b.B b.newId b.initId b.bm) : FbOk b := ⟨.of F, .of F, F.hasB⟩
theorem bIndex_fb : FbOk bIndex := fbOk PySem.F.excBase_IndexError
theorem bIndex_sf : SfOk bIndex := PySem.F.store_IndexError
theorem bOver_fb : FbOk bOver := fbOk PySem.F.excBase_OverflowError
theorem bOver_sf : SfOk bOver := PySem.F.store_OverflowError
def bRun : Bas := ⟨"RuntimeError", "RuntimeError.__new__", "RuntimeError.__init__", [.type "RuntimeError", .type "Exception", .type "BaseException", .type "object"]⟩
theorem bRun_ok : BasOk bRun := ⟨by kernel_rfl, by decide +kernel, by decide +kernel, by decide +kernel⟩
theorem bRun_fb : FbOk bRun := fbOk PySem.F.excBase_RuntimeError
theorem bRun_sf : SfOk bRun := PySem.F.store_RuntimeError
def bZero : Bas := ⟨"ZeroDivisionError", "ZeroDivisionError.__new__", "ZeroDivisionError.__init__", [.type "ZeroDivisionError", .type "ArithmeticError", .type "Exception", .type "BaseException", .type "object"]⟩
theorem bZero_ok : BasOk bZero := ⟨by kernel_rfl, by decide +kernel, by decide +kernel, by decide +kernel⟩
theorem bZero_fb : FbOk bZero := fbOk PySem.F.excBase_ZeroDivisionError
theorem bZero_sf : SfOk bZero := PySem.F.store_ZeroDivisionError
def bKey : Bas := ⟨"KeyError", "LookupError.__new__", "KeyError.__init__", [.type "KeyError", .type "LookupError", .type "Exception", .type "BaseException", .type "object"]⟩
theorem bKey_ok : BasOk bKey := ⟨by kernel_rfl, by decide +kernel, by decide +kernel, by decide +kernel⟩
theorem bKey_ini : IniF "KeyError" "KeyError.__init__" :=
  ⟨by decide +kernel, PySem.entryFor_alias (id' := "BaseException.__init__") (by rw [fastTable_eq_tree]; kernel_rfl) (by first | rfl | decide +kernel) (by decide +kernel) (by rw [fastTable_eq_tree]; kernel_rfl), by kernel_rfl, by kernel_rfl, by kernel_rfl, by decide +kernel⟩
theorem bKey_fb : FbOk bKey := ⟨⟨⟨"LookupError", _, _, PySem.F.excBase_LookupError, by decide +kernel⟩, by decide +kernel, by decide +kernel⟩, bKey_ini, by decide +kernel⟩
theorem bKey_sf : SfOk bKey :=
  ⟨by kernel_rfl, .of (owner := "object") (n := "__setattr__") (by rw [typeLookup_type, builtinLookup_eq_fast]; kernel_rfl) (by decide +kernel) (by decide +kernel) (by decide +kernel) (by first | exact .inl (by decide +kernel) | exact .inr (by decide +kernel)) (by rw [isSubtype_type]; kernel_rfl), PySem.F.entry_object_sa, by decide +kernel, by decide +kernel, by decide +kernel, fun _ _ _ => by unfold argsOk; kernel_rfl, fun _ => by kernel_rfl⟩
end Np

set_option Elab.async false
set_option linter.all false
set_option maxRecDepth 100000
set_option maxHeartbeats 4000000
namespace Np
open PySem PySem.Spec PyProof.Rows L2
/-! ### except (A, B, C, D) as n, the exception kept -/
theorem flying_more {base h h' : Heap} {l : List Env} {e : Addr} {Z : Obj → Prop} (k : ∀ b o, h.get? b = some o → h'.get? b = some o) (f : PySem.HandSPX.FlyingZ base l e Z h) : PySem.HandSPX.FlyingZ base l e Z h' := by
  obtain ⟨f1, f2, f3, oe, vs, T, oT, ts, g1, g2, g3, g4, g5, g6, g7, g8, g9⟩ := f
  refine ⟨fun b o q => k _ _ (f1 b o q), f2, Heap.FunFrames.of_keeps (fun b o q _ => ⟨o, k b o q, rfl⟩) f3, oe, vs, T, oT, ts, k _ _ g1, g2, g3, g4, g5, g6, k _ _ g7, g8, g9⟩
def wKeepT (K : PySem.W.Frag) (cs : List Value) (i : Nat) (ts : Addr → Value → Option Addr → TS) (Wout : WX) (D : Ends) : WX := fun cls d σ H =>
  ∃ b, PySem.W.exmAny K cls cs = some b ∧ (b = true → ∀ a oe vs, H a = none → Zc cls d oe → oe.data = .fields vs → ts a cls d (endsK a oe i D) (σ.set i (some (.ref a))) H) ∧ (b = false → Wout cls d σ H)
section
variable {X : Cx} {body suite : List Stmt} {b₀ : Stmt} {x1 x2 x3 x4 n : Str} {i kt : Nat} {c1 c2 c3 c4 : Value} {np1 np2 np3 np4 npt pos' pos : Pos} {tb : WX → TS} {ts : Addr → Value → Option Addr → TS} {Wout : WX}
theorem ps_try_keepT (hstk : X.stack = X.env :: X.outer) (hfrm : X.env.frame = some X.env.locals) (hex : X.ex = []) (hnd : X.N.Nodup) (hix : X.N[i]? = some n) (hkind : X.env.kindOf n = some .local) (hc1 : Names X x1 c1) (hc2 : Names X x2 c2) (hc3 : Names X x3 c3) (hc4 : Names X x4 c4) (tk : Takes X Wout)
    (hbody : ∀ (W : WX) (pn : List (Addr × Obj)) (xe : Value → Shared → Prop), Takes (X.tr pn xe) W → PassesOwn (model X.prog X.w) X.A X.env xe → PSs (X.tr pn xe) body (tb W))
    (hsuite : ∀ (a : Addr) (oe : Obj) (cls : Value) (d : Option Addr) (pn : List (Addr × Obj)), Zc cls d oe → (∃ vs, oe.data = .fields vs) → PSs (X.suite a ((a, oe) :: pn)) (b₀ :: suite) (ts a cls d))
    (hst : starEach [.Name x1 np1, .Name x2 np2, .Name x3 np3, .Name x4 np4] X.env = [(false, eval (.Name x1 np1) X.env), (false, eval (.Name x2 np2) X.env), (false, eval (.Name x3 np3) X.env), (false, eval (.Name x4 np4) X.env)] := by rfl) :
    PS X (.Try body [.ExceptHandler (some (.Tuple [.Name x1 np1, .Name x2 np2, .Name x3 np3, .Name x4 np4] kt npt)) (some n) (b₀ :: suite) pos'] [] [] pos) (fun D σ H => tb (wKeepT X.K [c1, c2, c3, c4] i ts Wout D) D σ H) := by
  refine ⟨fun pins s σ H D I hread => ?_⟩
  have okX := I.ok
  have fr0 : X.A.frames = some (X.env :: X.outer) := by rw [okX.frames, hstk]
  refine wpAny_Try_except ?_
  refine wpAny_mono ((hbody (wKeepT X.K [c1, c2, c3, c4] i ts Wout D) (X.pn ++ pins) (fun er s₁ => wpAny (model X.prog X.w) X.A (noteFrame er X.env) (fun _ s₂ => wpAny (model X.prog X.w) X.A (setFlight er none) (fun _ s₃ =>
    wpAny (model X.prog X.w) X.A (handleBy er X.env [.ExceptHandler (some (.Tuple [.Name x1 np1, .Name x2 np2, .Name x3 np3, .Name x4 np4] kt npt)) (some n) (b₀ :: suite) pos']) (SP X pins D) X.xe s₃) X.xe s₂) X.xe s₁) (fun u s' air => ?_) PassesOwn.looking).run [] s σ H D (I.toTry _) hread) (fun fl s1 hsp => ?_) (fun _ _ z => z)
  · obtain ⟨a, B, sI, pins', σ', H', cls, d, rfl, J', inB, up, sky, na, eos, gs, b, hb, yes, no⟩ := air
    have J : L2.Inv X pins σ' H' sI := J'.ofTry okX
    have sky1 : Sky B (X.env :: X.outer) a (Zc cls d) X.env.locals s'.heap := by rw [← hstk]; exact sky
    show wpAny (model X.prog X.w) X.A (noteFrame (.ref a) X.env) _ _ _
    refine Sky.land Zc.steady fr0 hfrm sky1 fun h3 f3 up3 => ?_
    have J3 : L2.Inv X pins σ' H' { s' with heap := h3 } := J.landed inB f3.1 (up.trans up3) eos gs
    obtain ⟨oe3, vs3, at3, z3, dat3⟩ := f3.there
    have outside : a ∉ frs (X.env :: X.outer) := fun hm => by
      obtain ⟨_, o', e', hnf⟩ := f3.2.2.1.mem hm
      rw [at3] at e'
      cases e'
      exact hnf _ dat3
    have nL : a ≠ X.env.locals := fun z => outside (List.mem_filterMap.mpr ⟨X.env, List.mem_cons_self, by rw [hfrm, z]⟩)
    have nF : a ∉ X.fs := fun hm => by
      obtain ⟨en, hen, q⟩ := List.mem_filterMap.mp hm
      exact outside (List.mem_filterMap.mpr ⟨en, List.mem_cons_of_mem _ hen, q⟩)
    have notI : sI.heap.get? a = none := by
      cases q : sI.heap.get? a with
      | none => rfl
      | some o =>
        have q2 := inB a o q (by rw [hstk]; exact outside)
        rw [f3.2.1] at q2
        cases q2
    have not0 : X.s_0.heap.get? a = none := by
      cases q : X.s_0.heap.get? a with
      | none => rfl
      | some o =>
        obtain ⟨o', q2⟩ := J.base.there a o q (by rw [hex]; simp)
        rw [notI] at q2
        cases q2
    have notP : ∀ p ∈ X.pn ++ pins, p.1 ≠ a := fun p hp z => by
      have q := (J.pin p hp).1
      rw [z, notI] at q
      cases q
    have S3 := J3.suite at3 dat3 na nL nF
    refine wpAny_handleBy_cons (codeAny_handlers_test ?_) (by intro q; cases q)
    have look1 : PySem.W.Looks (model X.prog X.w) h3 (typeOf (.ref a)) cls := fun A Q E s k q => wpAny_typeOf_ref (k _ _ at3) (by rw [z3.1]; exact q)
    have ask : ∀ {x : Str} {c : Value} {np : Pos} {Q : Value → Shared → Prop} {E : Value → Shared → Prop}, Names X x c → Q c { s' with heap := h3 } → wpAny (model X.prog X.w) (X.A.mark (some (.ref a))) (eval (.Name x np) X.env) Q E { s' with heap := h3 } := fun {x c np Q E} hcls q => by
      obtain ⟨g1, g2, g3 | ⟨g3, g4, g5⟩⟩ := hcls
      · exact ld_glob (X := X.suite a ((a, oe3) :: (X.pn ++ pins))) S3 g1 g3 q g2
      · exact ld_blt (X := X.suite a ((a, oe3) :: (X.pn ++ pins))) S3 g1 g3 g4 q g5 g2
    obtain ⟨h5, hh5⟩ : ∃ h5, h5 = h3.push { cls := .type "tuple", data := .seq [c1, c2, c3, c4].toArray } := ⟨_, rfl⟩
    have k5 : ∀ b o, h3.get? b = some o → h5.get? b = some o := fun b o e => by rw [hh5]; exact Heap.get?_push_of_some _ e
    have up5 : h3.UpToSlots h5 := fun b o e _ => ⟨o.slots, k5 b o e⟩
    have f5 := flying_more k5 f3
    have at5 := k5 _ _ at3
    have tup5 : h5.get? h3.objs.size = some { cls := .type "tuple", data := .seq [c1, c2, c3, c4].toArray } := by rw [hh5]; exact Heap.get?_push_size _ rfl
    have J5 : L2.Inv X pins σ' H' { s' with heap := h5 } := J.landed inB f5.1 ((up.trans up3).trans up5) eos gs
    have look5 : PySem.W.Looks (model X.prog X.w) h5 (typeOf (.ref a)) cls := fun A Q E s k q => wpAny_typeOf_ref (k _ _ at5) (by rw [z3.1]; exact q)
    have look2 := PySem.W.exm_tup4 (M := model X.prog X.w) (J5.kIn) look5 tup5 hb
    have askT : ∀ {Q : Value → Shared → Prop} {E : Value → Shared → Prop}, Q (.ref h3.objs.size) { s' with heap := h5 } → wpAny (model X.prog X.w) (X.A.mark (some (.ref a))) (eval (.Tuple [.Name x1 np1, .Name x2 np2, .Name x3 np3, .Name x4 np4] kt npt) X.env) Q E { s' with heap := h3 } := fun {Q E} q => by
      refine wpAny_Tuple_spliced ?_
      rw [hst]
      refine Calls.spliced_cons (ask hc1 (Calls.spliced_cons (ask hc2 (Calls.spliced_cons (ask hc3 (Calls.spliced_cons (ask hc4 (Calls.spliced_nil ⟨by show 4 ≤ sizeLine; decide, ?_⟩))))))))
      rw [hh5] at q
      exact q
    refine askT (look2.here ?_)
    cases b with
    | true =>
      refine codeAny_handlers_suite_as ?_
      refine HandSPX.lands_againZ f5 fun h4 f4 up4 => ?_
      have J4 : L2.Inv X pins σ' H' { s' with heap := h4 } := J.landed inB f4.1 (((up.trans up3).trans up5).trans up4) eos gs
      obtain ⟨oe4, vs4, at4, z4, dat4⟩ := f4.there
      have S4 := J4.suite at4 dat4 na nL nF
      refine store_ok (X := X.suite a ((a, oe4) :: (X.pn ++ pins))) (v := .ref a) S4 hnd hix (.inl hkind) rfl (fun s5 S5 => ?_) (.inr hkind)
      refine wpAny_mono ((hsuite a oe4 cls d (X.pn ++ pins) z4 ⟨_, dat4⟩).run [] s5 _ H' _ S5 (yes rfl a oe4 vs4 na z4 dat4)) (fun fl s6 hsp => ?_) (fun _ _ z => False.elim z)
      have fin : ∀ {σ6 : L2.St} {H6 : Hp} {Q : Shared → Prop}, L2.Inv (X.suite a ((a, oe4) :: (X.pn ++ pins))) [] σ6 H6 s6 → (∀ s7, L2.Inv X pins (σ6.set i none) (upd H6 a (exk a oe4)) s7 → Q s7) →
          wpAny (model X.prog X.w) X.A (do bindName X.env n .none; unbindBehindTheSuite X.env n pos') (fun _ s7 => Q s7) X.xe s6 := fun {σ6 H6 Q} S6 hq => by
        obtain ⟨p1, p2, _⟩ := S6.pin (a, oe4) (List.mem_append_left _ List.mem_cons_self)
        exact gone_ok (track (S6.unsuite okX) p1 dat4 p2 not0 nL notP) hnd hix hkind hq
      cases fl with
      | next =>
        obtain ⟨σ6, H6, S6, q6⟩ := hsp
        exact fin S6 fun s7 J7 => ⟨_, _, J7, q6⟩
      | brk =>
        obtain ⟨σ6, H6, S6, q6⟩ := hsp
        exact fin S6 fun s7 J7 => ⟨_, _, J7, q6⟩
      | cont =>
        obtain ⟨σ6, H6, S6, q6⟩ := hsp
        exact fin S6 fun s7 J7 => ⟨_, _, J7, q6⟩
      | ret u =>
        obtain ⟨v6, σ6, H6, S6, r6, q6⟩ := hsp
        exact fin S6 fun s7 J7 => ⟨_, _, _, J7, r6, q6⟩
    | false =>
      show wpAny _ X.A (handleBy (.ref a) X.env []) _ _ _
      refine wpAny_handleBy_nil ?_
      obtain ⟨k1, k2, k3, oe, vs, T, oT, ts', he, hz, hdt, h1, hrr⟩ := id f5
      unfold PySem.passOn
      refine wpAny_bind (wpAny_field he hdt h1 ?_)
      rw [if_neg (show ¬ ((Value.ref T == Value.none) = true) from by simp)]
      have away : wpAny (model X.prog X.w) X.A (setFlight (.ref a) X.env.frame) (fun _ s4 => wpAny (model X.prog X.w) X.A (throw (.ref a) : Sem Flow) (SP X pins D) X.xe s4) X.xe { s' with heap := h5 } := by
        rw [hfrm]
        refine HandSPX.setFlight_upZ f5 fun h4 hh4 up4 => wpAny_throw (tk _ _ ?_)
        exact ⟨a, B, sI, pins, σ', H', cls, d, rfl, J, inB, ((up.trans up3).trans up5).trans up4, .inr (.inr (by rw [hstk]; exact hh4)), na, eos, gs, no rfl⟩
      first
        | exact wpAny_bind (wpAny_pure (wpAny_bind away))
        | exact wpAny_bind away
  · cases fl with
    | next =>
      obtain ⟨σ', H', J', q⟩ := hsp
      exact wpAny_execs_nil ⟨σ', H', J'.ofTry okX, q⟩
    | brk =>
      obtain ⟨σ', H', J', q⟩ := hsp
      exact ⟨σ', H', J'.ofTry okX, q⟩
    | cont =>
      obtain ⟨σ', H', J', q⟩ := hsp
      exact ⟨σ', H', J'.ofTry okX, q⟩
    | ret u =>
      obtain ⟨v, σ', H', J', r, q⟩ := hsp
      exact ⟨v, σ', H', J'.ofTry okX, r, q⟩
end
section
variable {W : Wp} {Wx : L2.St → XK}
theorem ds_tryT {tb : WX → L2.TS} {δ : DS} {cs : List Value} {i j : Nat} {exm : Str → Option Bool} (hij : i ≠ j) (hx : ∀ s b, exm s = some b → PySem.W.exmAny W.K (.ref (W.cm s)) cs = some b)
    (hb : ∀ Wz : WX, DnS W (fun σ cls d H => Wz cls d σ H) (tb Wz) δ) :
    DnS W Wx (fun D σ H => tb (wKeepT W.K cs i (fun _ _ _ => tSeq (tAsg (tVar i) (gName j)) tNext) (fun cls d σ H => Wx σ cls d H) D) D σ H) (dTryK exm i j δ) := fun tp0 G0 H0 tp G H σ ρ τ D E P => by
  refine hb _ _ _ _ _ _ _ _ _ _ _ E ?_
  unfold dTryK at P
  revert P
  match δ ρ τ with
  | .ok (.nx ρ') τ' => exact fun P => P
  | .ok (.bk ρ') τ' => exact fun P => P
  | .ok (.ct ρ') τ' => exact fun P => P
  | .ok (.rt d) τ' => exact fun P => P
  | .ok (.ro d) τ' => exact fun P => P
  | .ex x τ' => exact fun P => P
  | .no => exact fun P => P
  | .ok (.xc x ρ1) τ1 =>
    intro P d tp' G1 H1 σ1 s1 E1 hxr
    cases hm : exm x.cls with
    | none => simp only [hm] at P; exact P.elim
    | some b =>
      refine ⟨b, hx _ _ hm, fun hb1 a oe vs na z dt => ?_, fun hb0 => ?_⟩
      · subst hb1
        simp only [hm] at P
        obtain ⟨xs, hd, rf⟩ := hxr
        have E2 : EnvS W tp0 G0 H0 tp' (upd G1 a (exk a oe)) (upd H1 a (exk a oe)) σ1 ρ1 τ1 := E1.step (Ext.new na E1.v.g) (E1.v.new na)
        have sg : Same G1 (upd G1 a (exk a oe)) := same_new (E1.v.g.free na)
        have r : Rp W.K W.cm (upd G1 a (exk a oe)) (.ref a) (.exc x.cls x.fs) := .exc upd_same z dt (hd.mono sg) (rf.mono sg)
        have E3 := (E2.setF (i := j) r)
        have E4 : EnvS W tp0 G0 H0 tp' (upd G1 a (exk a oe)) (upd H1 a (exk a oe)) ((σ1.set j (some (.ref a))).set i none) ((ρ1.set j (some (.fr (.exc x.cls x.fs)))).set i none) τ1 :=
          E3.sub E3.v.setN (Sub.set fun _ z => by cases z)
        by_cases hi : i < ρ1.length
        · rw [if_pos hi] at P
          have := P tp' _ _ _ (s1.trans sg) E4
          have hl : i < σ1.length := by have := E1.v.s.length; omega
          refine ⟨_, List.getElem?_set_self hl, ?_⟩
          show D.nx (((σ1.set i (some (.ref a))).set j (some (.ref a))).set i none) (upd H1 a (exk a oe))
          rw [List.set_comm _ _ hij, List.set_set]
          exact this
        · rw [if_neg hi] at P
          exact P.elim
      · subst hb0
        simp only [hm] at P
        exact P d tp' G1 H1 σ1 s1 E1 hxr
end
theorem exmAny4 {K : PySem.W.Frag} {cls c1 c2 c3 c4 : Value} {b1 b2 b3 b4 : Bool} (h1 : PySem.W.exmOne K cls c1 = some b1) (h2 : PySem.W.exmOne K cls c2 = some b2) (h3 : PySem.W.exmOne K cls c3 = some b3) (h4 : PySem.W.exmOne K cls c4 = some b4) :
    PySem.W.exmAny K cls [c1, c2, c3, c4] = some (b1 || (b2 || (b3 || (b4 || false)))) := by
  simp only [PySem.W.exmAny, h1, h2, h3, h4]
end Np

set_option Elab.async false
set_option linter.all false
set_option maxRecDepth 100000
set_option maxHeartbeats 4000000
namespace Np
open PySem PySem.Spec PyProof.Rows L2
/-! ### sorted(whole numbers) -/
def sortI (ns : List Int) : List Int := ns.mergeSort fun a b => decide (a ≤ b)
theorem sortI_sorted (ns : List Int) : (sortI ns).Pairwise (· ≤ ·) := by
  have h := List.pairwise_mergeSort (le := fun a b : Int => decide (a ≤ b)) (fun a b c h1 h2 => by simp at *; omega) (fun a b => by simp; omega) ns
  exact h.imp fun h => by simpa using h
theorem sortI_perm (ns : List Int) : (sortI ns).Perm ns := List.mergeSort_perm _ _
theorem sorted_is {ns ms : List Int} (h1 : ms.Perm ns) (h2 : ms.Pairwise (· ≤ ·)) : ms = sortI ns :=
  List.Perm.eq_of_pairwise (fun a b _ _ x y => by omega) h2 (sortI_sorted ns) (h1.trans (sortI_perm ns).symm)
def gSortI : DD → Option DD
  | .lst ds => (ints? ds).map fun ns => .lst ((sortI ns).map DD.int)
  | _ => none
theorem RpA.intsD {K : PySem.W.Frag} {cm : CM} {H : Hp} : ∀ ns : List Int, RpA K cm H (ns.map V.int) (ns.map DD.int)
  | [] => .nil
  | n :: ns => .cons (.int n) (RpA.intsD ns)
theorem cd_sortI {W : Wp} : CallD W (rSortedI W.K) (c1 gSortI) := by
  intro G H x a c Q s ra e k
  replace e := c1_eq e
  obtain ⟨d, rfl, e⟩ := e
  cases ra with | cons r rs =>
  cases rs
  cases r <;> first | (cases e; done) | skip
  rename_i h r
  obtain ⟨ns, h1, h2⟩ := Option.map_eq_some_iff.mp e
  cases h2
  cases ints?_eq h1
  refine ⟨_, ns, rfl, by rw [← r.ints_of]; exact SqL.of (s _ _ h), fun ms p hp hs hn => ?_⟩
  rw [sorted_is hp hs]
  exact k _ _ _ (Ext.new hn s) (same_both s) (.lst upd_same (RpA.intsD _))
theorem cr_sortIK {X : Cx} (K : PySem.W.Frag) (h : X.K = K := by rfl) : CallR X (.builtin "sorted") (rSortedI K) := by subst h; exact cr_sortedI
end Np

set_option Elab.async false
set_option linter.all false
set_option maxRecDepth 100000
set_option maxHeartbeats 4000000
namespace Np
open PySem PySem.Spec PyProof.Rows L2
/-! ### len(x) by an own __len__ -/
def rLenO (C : Addr) (sp : Sp) : List V → Hp → VK → Prop := fun xs H Q => ∃ (a dx : Addr) (fs : List (Str × V)), xs = [.ref a] ∧ H a = some (.ins C dx fs) ∧ sp [.ref a] H (fun v H' => ∃ n : Int, v = .int n ∧ 0 ≤ n ∧ n < 2 ^ 63 ∧ Q (.int n) H') E0
theorem cr_lenO {X : Cx} {C f : Addr} {fd : FuncData} {ps : List Str} {sp : Sp} {k : Nat} (F : FnG X.prog X.w X.K X.mg X.base CX0 k f fd ps sp) (hgd : X.A.guards = some []) (hr : Room (k + 1) X.A) (hb : Binds X.K fd ps [])
    (hs : PySem.W.findIn X.K (.ref C) "__len__" = some (some (.ref f))) (hf : PySem.W.isFn X.K (.ref f) = true) : CallR X (.builtin "len") (rLenO C sp) := by
  intro pins s σ H xs us Q I r h
  obtain ⟨a, dx, fs, rfl, ha, hsp⟩ := h
  cases r with | cons r rr =>
  cases rr
  cases r
  obtain ⟨mA, J, _⟩ := ins_get I.hok ha
  obtain ⟨od, J, _⟩ := J.look
  obtain ⟨m, hF⟩ := I.fr
  refine PySem.W.len_K hF I.ok.mod.kin J hs hf ?_
  have e0 : Env0 X.prog X.w X.K X.mg X.base X.A.in1 X.stack s H := by
    have e := I.env0
    exact ⟨e.frames, e.mod, e.bs, e.bsz, e.funs, e.frf, e.hok, e.bare⟩
  have hl := F.len _ _ _ _ hsp
  have r2 : Vals [V.ref a] [Value.ref a] := .cons rfl .nil
  refine wpAny_call (codeAny_mono (F.run X.A.in1 X.stack s H ⟨[.ref a], []⟩ [.ref a] [.ref a] _ E0 hgd hr.in1 e0 (by
    have := hb s [.ref a] I.kIn (by simpa using hl)
    simpa using this) r2 hsp) fun r s' hq => ?_)
  cases r with
  | error e => exact hq.elim
  | ok fl =>
    cases fl with
    | ret u =>
      obtain ⟨z, H', I', rz, n, ez, n0, n1, q⟩ := I.after hq
      subst ez
      obtain ⟨t, rfl⟩ := rz
      exact ⟨⟨n0, n1⟩, .int n, H', I'.tok _, ⟨_, rfl⟩, q⟩
    | next => exact False.elim hq
    | brk => exact False.elim hq
    | cont => exact False.elim hq

section
variable {W : Wp} {Wx : L2.St → XK} {ta : TA} {δa : DA}
def dLenO (cls : Str) (F : Fn) (a : DA) : DE := fun ρ τ => (a ρ τ).bind fun xs τ1 => match xs with
  | [.obj C fs] => if C = cls then (F [.fr (.obj C fs)] τ1).nox.bind fun d τ2 => match d with
      | .int n => if 0 ≤ n ∧ n < 2 ^ 63 then .ok (.int n) τ2 else .no
      | _ => .no
    else .no
  | _ => .no
theorem dn_lenO {cls : Str} {C : Addr} {F : Fn} (hC : W.cm cls = C) (ha : DnA W Wx ta δa) : Dn W Wx (tCB (rLenO C (spP W 1 F)) ta) (dLenO cls F δa) := fun tp G H σ ρ τ Q E P =>
  ha _ _ _ _ _ _ _ E (P.bind fun as τ1 vs G1 H1 e1 E1 r1 P1 => by
    subst hC
    split at P1
    · rename_i C fs
      by_cases h : C = cls
      · subst h
        rw [if_pos rfl] at P1
        cases r1 with | cons r rs =>
        cases rs
        cases r with | obj hg rf =>
        refine ⟨_, _, _, rfl, E1.g _ _ hg, rfl, tp, G1, _, τ1, E1.g, .cons (show ArgR W tp G1 _ (.fr _) from Rp.obj hg rf) .nil, E1.t, ?_⟩
        revert P1
        cases F [.fr (.obj C fs)] τ1 with
        | ok d τ' =>
          intro P1 v G' H' e s t r
          cases d <;> first | exact P1.elim | skip
          rename_i n
          simp only [R.nox_ok, R.bind_ok] at P1
          by_cases hn : 0 ≤ n ∧ n < 2 ^ 63
          · rw [if_pos hn] at P1
            exact ⟨n, r.int_of, hn.1, hn.2, P1 _ G' H' e (E1.ext e s t) (.int n)⟩
          · rw [if_neg hn] at P1
            exact P1.elim
        | ex x τ' => exact fun P1 => P1.elim
        | no => exact fun P1 => P1.elim
      · rw [if_neg h] at P1
        exact P1.elim
    · exact P1.elim)
end
end Np

set_option Elab.async false
set_option linter.all false
set_option maxRecDepth 100000
set_option maxHeartbeats 4000000
namespace Np
open PySem PySem.Spec PyProof.Rows L2
/-- str(v) in one fixed model: what strOf does there -/
theorem str_call {prog : Program} {w : World} {A : Around} {E : Value → Shared → Prop} {s : Shared} {v : Value} {Q : Value → Shared → Prop}
    (hstr : wpAny (model prog w) A.in1.in1 (Builtin.Str.strOf v) (fun r s' => s'.TypeIs r "str" ∧ Q r s') E s) : wpAny (model prog w) A (call (.type "str") [v]) Q E s := by
  have ft := F.called_str
  obtain ⟨c, tl, hmro⟩ := ft.mro
  have hmade := ft.made
  have hsub := ft.sub
  refine wpAny_call (codeAny_of_tree ?_)
  show wpAny _ _ (callAny (.type "str") _) _ _ _
  refine wpAny_pure ⟨Code.quiet_builtin _ (by decide +kernel), codeAny_builtin F.entry_type_call ?_⟩
  rw [Around.under_plain (weight_type_call_type "str" [v] []) (units_type_call_type "str" [v] [])]
  have h1 := ft.notType
  have h2 := ft.canCreate
  have hct := F.typeCall_str_1 v
  repeat (any_goals (first | assumption | wp_step))
  refine codeAny_mono (R := wants (fun obj s₁ => s₁.TypeIs obj "str" ∧ Q obj s₁) E) (codeAny_call_builtin ft.plain F.entry_str_new (wpAny_of_eq (F.newCall_str_1 v) ?_)) fun r s₁ hr => ?_
  · rw [str_new_tree v]
    refine wpAny_bind (wpAny_pure ?_)
    refine wpAny_bind (wpAny_of_eq isSubtype_str_str ?_)
    exact wpAny_bind (wpAny_mono hstr (fun r s' h' => wpAny_pure h') fun _ _ e => e)
  · cases r with
    | error e => exact hr
    | ok fl =>
      cases fl with
      | ret obj =>
        obtain ⟨hT, hQ⟩ : s₁.TypeIs obj "str" ∧ Q obj s₁ := hr
        have hok := F.args_object_init_2 obj v
        have hli := ft.init.lookup
        have hbi := ft.init.bind obj
        repeat (any_goals (first | assumption | wp_step))
        have gi := object_init_meets (self := obj) (rest := [v]) ft.init.lookup ft.made (by decide)
        refine codeAny_mono (R := wants (fun r s₂ => r = .none ∧ Q obj s₂) E) (codeAny_call_builtin ft.init.plain F.entry_object_init (ft.init.check _ _ _ _ _ _ _ _ hT hok (gi prog w A.in1 _ s₁ ⟨hT, rfl, hQ⟩))) fun r₂ s₂ hr₂ => ?_
        cases r₂ with
        | error e => exact hr₂
        | ok fl₂ =>
          cases fl₂ with
          | ret r =>
            obtain ⟨rfl, hq⟩ := hr₂
            repeat (any_goals (first | assumption | wp_step))
          | _ => exact hr₂.elim
      | _ => exact hr.elim

theorem strOf_fn {prog : Program} {w : World} {A : Around} {E : Value → Shared → Prop} {s : Shared} {K : PySem.W.Frag} {x C f : Addr} {ox : Obj} {od : Option Obj} {Q : Value → Shared → Prop} (hu : A.units < cLine) (X : K.In s.heap) (I : PySem.W.InstAt s.heap x ox C od)
    (hs : PySem.W.findIn K (.ref C) "__str__" = some (some (.ref f))) (hf : PySem.W.isFn K (.ref f) = true)
    (h : wpAny (model prog w) A (call (.ref f) [.ref x]) (fun r s' => ∃ z t, r = .str z t ∧ Q (.str z t) s') E s) : wpAny (model prog w) A (Builtin.Str.strOf (.ref x)) Q E s := by
  unfold Builtin.Str.strOf
  rw [if_neg (show ¬ Builtin.Str.isExactStr (Value.ref x) = true from by intro z; cases z)]
  refine wpAny_bind (wpAny_cRoomFor hu ?_)
  refine wpAny_bind (m := callSpecial? (.ref x) (Str.ofString "__str__")) (PySem.W.special_fn X I hs (beq_iff_eq.mp hf) (wpAny_mono h (fun r s' hr => ?_) fun _ _ y => y))
  obtain ⟨z, t, rfl, q⟩ := hr
  repeat (any_goals (first | assumption | wp_step))
/-- str(x) of a kept exception by an own __str__ -/
def rStrX (C : Addr) (sp : Sp) : List V → Hp → VK → Prop := fun xs H Q => ∃ (a : Addr) (d : Option Addr) (fs : List (Str × V)), xs = [.ref a] ∧ Kept H a C d fs ∧ sp [.ref a] H (fun v H' => ∃ z : Str, v = .str z ∧ Q (.str z) H') E0
theorem cr_strX {X : Cx} {C f : Addr} {fd : FuncData} {ps : List Str} {sp : Sp} {k : Nat} (F : FnG X.prog X.w X.K X.mg X.base CX0 k f fd ps sp) (hgd : X.A.guards = some []) (hr : Room (k + 2) X.A) (hb : Binds X.K fd ps [])
    (hs : PySem.W.findIn X.K (.ref C) "__str__" = some (some (.ref f))) (hf : PySem.W.isFn X.K (.ref f) = true) : CallR X (.type "str") (rStrX C sp) := by
  intro pins s σ H xs us Q I r h
  obtain ⟨a, d, fs, rfl, kp, hsp⟩ := h
  cases r with | cons r rr =>
  cases rr
  cases r
  obtain ⟨oe, od, J, _⟩ := kp.inst I
  refine str_call (strOf_fn (K := X.K) (by have := hr.in1.in1.un; omega) I.kIn J hs hf ?_)
  have e0 : Env0 X.prog X.w X.K X.mg X.base X.A.in1.in1 X.stack s H := by
    have e := I.env0
    exact ⟨e.frames, e.mod, e.bs, e.bsz, e.funs, e.frf, e.hok, e.bare⟩
  have hl := F.len _ _ _ _ hsp
  have r2 : Vals [V.ref a] [Value.ref a] := .cons rfl .nil
  refine wpAny_call (codeAny_mono (F.run X.A.in1.in1 X.stack s H ⟨[.ref a], []⟩ [.ref a] [.ref a] _ E0 hgd hr.in1.in1 e0 (by
    have := hb s [.ref a] I.kIn (by simpa using hl)
    simpa using this) r2 hsp) fun r s' hq => ?_)
  cases r with
  | error e => exact hq.elim
  | ok fl =>
    cases fl with
    | ret u =>
      obtain ⟨z, H', I', rz, y, ez, q⟩ := I.after hq
      subst ez
      obtain ⟨t, rfl⟩ := rz
      exact ⟨y, t, rfl, typeIs_str _ _ _, .str y, H', I', ⟨_, rfl⟩, q⟩
    | next => exact False.elim hq
    | brk => exact False.elim hq
    | cont => exact False.elim hq

section
variable {W : Wp} {Wx : L2.St → XK} {ta : TA} {δa : DA}
def dStrX (cls : Str) (F : Fn) (a : DA) : DE := fun ρ τ => (a ρ τ).bind fun xs τ1 => match xs with
  | [.exc C fs] => if C = cls then (F [.fr (.exc C fs)] τ1).nox.bind fun d τ2 => match d with
      | .str z => .ok (.str z) τ2
      | _ => .no
    else .no
  | _ => .no
theorem dn_strX {cls : Str} {C : Addr} {F : Fn} (hC : W.cm cls = C) (ha : DnA W Wx ta δa) : Dn W Wx (tCB (rStrX C (spP W 1 F)) ta) (dStrX cls F δa) := fun tp G H σ ρ τ Q E P =>
  ha _ _ _ _ _ _ _ E (P.bind fun as τ1 vs G1 H1 e1 E1 r1 P1 => by
    subst hC
    split at P1
    · rename_i C fs
      by_cases h : C = cls
      · subst h
        rw [if_pos rfl] at P1
        cases r1 with | cons r rs =>
        cases rs
        obtain ⟨p, d, xs, rfl, kp, nz, rf⟩ := r.kept
        refine ⟨p, _, xs, rfl, kp.mono E1.g, rfl, tp, G1, _, τ1, E1.g, .cons (show ArgR W tp G1 _ (.fr _) from r) .nil, E1.t, ?_⟩
        revert P1
        cases F [.fr (.exc C fs)] τ1 with
        | ok d τ' =>
          intro P1 v G' H' e s t r
          cases d <;> first | exact P1.elim | skip
          rename_i z
          simp only [R.nox_ok, R.bind_ok] at P1
          exact ⟨z, r.str_of, P1 _ G' H' e (E1.ext e s t) (.str z)⟩
        | ex x τ' => exact fun P1 => P1.elim
        | no => exact fun P1 => P1.elim
      · rw [if_neg h] at P1
        exact P1.elim
    · exact P1.elim)
end
/-- what a class with an own __str__ brings -/
def StrC (P : Program) (w : World) (K : PySem.W.Frag) (mg : Str → Option Value) (base : Heap) (k : Nat) (C : Addr) (ps : List Str) (sp : Sp) : Prop :=
  ∃ (f : Addr) (fd : FuncData), FnG P w K mg base CX0 k f fd ps sp ∧ Binds K fd ps [] ∧ PySem.W.findIn K (.ref C) "__str__" = some (some (.ref f)) ∧ PySem.W.isFn K (.ref f) = true
theorem cr_strC {X : Cx} {C : Addr} {ps : List Str} {sp : Sp} {k : Nat} (h : StrC X.prog X.w X.K X.mg X.base k C ps sp) (hgd : X.A.guards = some []) (hr : Room (k + 2) X.A) : CallR X (.type "str") (rStrX C sp) := by
  obtain ⟨f, fd, F, hb, hs, hf⟩ := h
  exact cr_strX F hgd hr hb hs hf
end Np

set_option Elab.async false
set_option linter.all false
set_option maxRecDepth 100000
set_option maxHeartbeats 4000000
namespace Np
open PySem PySem.Spec PyProof.Rows L2
/-! ### C(..) by any __init__ -/
def tMakeG (C : Addr) (n m : Nat) (sp : Sp) (gV : List V → List V → List V) (E : L2.St → XK) (t tk : TA) : TE := fun σ H Q => t σ H fun vs H1 => tk σ H1 fun zs H2 => vs.length = n ∧ zs.length = m ∧
  ∀ x dx, H2 x = none → H2 dx = none → dx ≠ x → sp (gV (.ref x :: vs) zs) (upd (upd H2 dx (.own x)) x (.ins C dx [])) (fun v H3 => v = .non ∧ Q (.ref x) H3) (E σ)
/-- what a class brings that is made -/
def MkC (P : Program) (w : World) (K : PySem.W.Frag) (mg : Str → Option Value) (base : Heap) (CX : CXT) (k : Nat) (C : Addr) (ps : List Str) (sp : Sp) (n : Nat) (ks : List Str) (gV : List V → List V → List V) : Prop :=
  ∃ (f : Addr) (fd : FuncData), Mk K C f ∧ FnG P w K mg base CX k f fd ps sp ∧ KB K fd ps (n + 1) ks gV
section
variable {X : Cx} {CX : CXT} {k n : Nat} {f C : Addr} {fd : FuncData} {ps ks : List Str} {sp : Sp} {E : L2.St → XK} {x : Str} {p pos : Pos} {e : Expr} {es : List Expr} {kws : List Keyword} {t tk : TA} {g : List Value → List Value → List Value} {gV : List V → List V → List V}
theorem run_mkG {pins : List (Addr × Obj)} {σ : L2.St} {H : Hp} {s : Shared} {Q : VK} {us ws : List Value} {vs zs : List V} {E : XK} (h : MkC X.prog X.w X.K X.mg X.base CX k C ps sp n ks gV) (hgd : X.A.guards = some []) (hr : Room (k + 1) X.A)
    (hx : PassesAt CX X σ E) (I : L2.Inv X pins σ H s) (r : Vals vs us) (rz : Vals zs ws) (l1 : vs.length = n) (l2 : zs.length = ks.length)
    (h' : ∀ x dx, H x = none → H dx = none → dx ≠ x → sp (gV (.ref x :: vs) zs) (upd (upd H dx (.own x)) x (.ins C dx [])) (fun v H2 => v = .non ∧ Q (.ref x) H2) E) :
    wpAny (model X.prog X.w) X.A (call (.ref C) us (ks.zip ws)) (EP X pins σ Q) X.xe s := by
  obtain ⟨f, fd, M, F, g, hb⟩ := h
  have hq := h' (s.heap.objs.size + 1) s.heap.objs.size (I.hok.fresh (Nat.le_succ _)) (I.hok.fresh (Nat.le_refl _)) (Nat.ne_of_lt (Nat.lt_succ_self _))
  have I2 := Inv.made (C := C) I
  have r1 : Vals (V.ref (s.heap.objs.size + 1) :: vs) (Value.ref (s.heap.objs.size + 1) :: us) := .cons rfl r
  have r2 := hb.rel r1 rz
  have e1 : (Value.ref (s.heap.objs.size + 1) :: us).length = n + 1 := r1.length.symm.trans (congrArg Nat.succ l1)
  have e2 : ws.length = ks.length := rz.length.symm.trans l2
  refine wpAny_call (make_map (f := f) I.kIn M.makes M.init (beq_iff_eq.mp M.fn) (codeAny_mono (F.run _ X.stack _ _ ⟨Value.ref (s.heap.objs.size + 1) :: us, ks.zip ws⟩ (g (Value.ref (s.heap.objs.size + 1) :: us) ws) _ _ E hgd (hr.make C us (ks.zip ws))
    (I2.env0.make C us (ks.zip ws)) (hb.to _ (Value.ref (s.heap.objs.size + 1) :: us) ws I2.kIn e1 e2) r2 hq) fun r s' hq' => ?_))
  cases r with
  | error e => exact hx pins _ _ e s' I2 hq'
  | ok fl =>
    cases fl with
    | ret u =>
      obtain ⟨v, H', I3, rv, ev, q3⟩ := I2.after hq'
      subst ev
      exact ⟨rv, ⟨V.ref (s.heap.objs.size + 1), H', I3, rfl, q3⟩⟩
    | next => exact False.elim hq'
    | brk => exact False.elim hq'
    | cont => exact False.elim hq'
theorem MkC.kp (h : MkC X.prog X.w X.K X.mg X.base CX k C ps sp n ks gV) : PySem.W.keepIn X.K (.ref C) = true := by
  obtain ⟨f, fd, M, _⟩ := h
  exact M.kp
theorem pe_mkG (h : MkC X.prog X.w X.K X.mg X.base CX k C ps sp n ks gV) (hgd : X.A.guards = some []) (hr : Room (k + 1) X.A) (hm : X.mg x = some (.ref C)) (hx : ∀ σ, PassesAt CX X σ (E σ))
    (ha : PA X (e :: es) t) (hkw : PK X kws tk) (hg : Gl X x := by rfl) (hall : (backToKw pos (keywordEach kws X.env)).all (·.1.isSome) = true := by rfl) (hks : (backToKw pos (keywordEach kws X.env)).filterMap (·.1) = ks := by rfl)
    (hdb : (x == ("__debug__" : Str)) = false := by decide) (he : starEach (e :: es) X.env = (false, eval e X.env) :: starEach es X.env := by rfl)
    (hpl : ((backTo pos (starEach (e :: es) X.env)).any (·.1) || (backToKw pos (keywordEach kws X.env)).any (·.1.isNone)) = false := by rfl) :
    PE X (.Call (.Name x p) (e :: es) kws pos) (tMakeG C n ks.length sp gV E t tk) := by
  refine ⟨fun pins s σ H Q I hh => ?_⟩
  refine wpAny_Call_Name_kw (ld_glob I hg hm ?_ hdb)
  refine PySem.W.callWith_KW (h₀ := X.base) I.ok.mod.kin h.kp hall (L2.thn (ha.run pos pins s σ H _ I hh) fun us s1 hh1 => ?_) hpl he
  obtain ⟨vs, H1, I1, r, q⟩ := hh1
  refine L2.thn (hkw.run pos pins s1 σ H1 _ I1 q) fun ws s2 hh2 => ?_
  obtain ⟨zs, H2, I2, rz, l1, l2, q2⟩ := hh2
  refine ⟨I2.kIn, ?_⟩
  rw [hks]
  exact run_mkG h hgd hr (hx σ) I2 r rz l1 l2 q2
theorem pe_mkG0 (h : MkC X.prog X.w X.K X.mg X.base CX k C ps sp 0 ks gV) (hgd : X.A.guards = some []) (hr : Room (k + 1) X.A) (hm : X.mg x = some (.ref C)) (hx : ∀ σ, PassesAt CX X σ (E σ))
    (hkw : PK X kws tk) (hg : Gl X x := by rfl) (hall : (backToKw pos (keywordEach kws X.env)).all (·.1.isSome) = true := by rfl) (hks : (backToKw pos (keywordEach kws X.env)).filterMap (·.1) = ks := by rfl)
    (hdb : (x == ("__debug__" : Str)) = false := by decide)
    (hpl : ((backTo pos (starEach [] X.env)).any (·.1) || (backToKw pos (keywordEach kws X.env)).any (·.1.isNone)) = false := by rfl) :
    PE X (.Call (.Name x p) [] kws pos) (tMakeG C 0 ks.length sp gV E tNil tk) := by
  refine ⟨fun pins s σ H Q I hh => ?_⟩
  refine wpAny_Call_Name_kw (ld_glob I hg hm ?_ hdb)
  refine PySem.W.callWith_KW0 (h₀ := X.base) I.ok.mod.kin h.kp hall ?_ hpl
  refine L2.thn (hkw.run pos pins s σ H _ I hh) fun ws s2 hh2 => ?_
  obtain ⟨zs, H2, I2, rz, l1, l2, q2⟩ := hh2
  refine ⟨I2.kIn, ?_⟩
  rw [hks]
  exact run_mkG (us := []) (vs := []) h hgd hr (hx σ) I2 .nil rz l1 l2 q2
theorem pe_mkP (h : MkC X.prog X.w X.K X.mg X.base CX k C ps sp n [] gV) (hgd : X.A.guards = some []) (hr : Room (k + 1) X.A) (hm : X.mg x = some (.ref C)) (hx : ∀ σ, PassesAt CX X σ (E σ))
    (ha : PA X (e :: es) t) (hg : Gl X x := by rfl) (hdb : (x == ("__debug__" : Str)) = false := by decide) (he : starEach (e :: es) X.env = (false, eval e X.env) :: starEach es X.env := by rfl) (hpl : (backTo pos (starEach es X.env)).any (·.1) = false := by rfl) :
    PE X (.Call (.Name x p) (e :: es) [] pos) (tMakeG C n 0 sp gV E t tNil) := by
  refine ⟨fun pins s σ H Q I hh => ?_⟩
  refine wpAny_Call_Name_kw (ld_glob I hg hm ?_ hdb)
  refine PySem.W.callWith_K (h₀ := X.base) I.ok.mod.kin h.kp (L2.thn (ha.run pos pins s σ H _ I hh) fun us s1 hh1 => ?_) he hpl
  obtain ⟨vs, H1, I1, r, l1, l2, q⟩ := hh1
  exact ⟨I1.kIn, run_mkG (ks := []) (ws := []) (zs := []) h hgd hr (hx σ) I1 r .nil l1 rfl q⟩
end
/-! ### the denotation -/
abbrev FnI := Addr → List PV → TS' → R DD
open Classical in
noncomputable def allX (F : FnI) (as : List PV) (τ : TS') : R DD := if h : ∃ r, ∀ x, F x as τ = r then h.choose else .no
theorem allX_eq {F : FnI} {as : List PV} {τ : TS'} {r : R DD} (h : ∀ x, F x as τ = r) : allX F as τ = r := by
  have h' : ∃ r, ∀ x, F x as τ = r := ⟨r, h⟩
  unfold allX
  rw [dif_pos h']
  exact (h'.choose_spec 0).symm.trans (h 0)
theorem allX_at {F : FnI} {as : List PV} {τ : TS'} (x : Addr) : allX F as τ = .no ∨ F x as τ = allX F as τ := by
  unfold allX
  split
  · rename_i h
    exact .inr (h.choose_spec x)
  · exact .inl rfl
def IPost (W : Wp) (tp : Option Addr) (G H : Hp) (x : Addr) (Q : VK) (E : XK) : R DD → Prop
  | .ok d τ' => ∀ G' H', Ext tp G H G' H' → Same G' H' → TapeO W G' H' tp τ' → Rp W.K W.cm G' (.ref x) d → Q .non H'
  | .ex e τ' => ∀ d G' H', Ext tp G H G' H' → Same G' H' → TapeO W G' H' tp τ' → ExR W G' H' e d → E (.ref (W.cm e.cls)) d H'
  | .no => False
def spI (W : Wp) (k : Nat) (cls : Str) (F : FnI) : Sp := fun vs H1 Q E => vs.length = k ∧ ∃ x dx H rest tp G as τ, vs = .ref x :: rest ∧ H x = none ∧ H dx = none ∧ dx ≠ x ∧ H1 = upd (upd H dx (.own x)) x (.ins (W.cm cls) dx []) ∧
  Same G H ∧ Paired (ArgR W tp G) rest as ∧ TapeO W G H tp τ ∧ IPost W tp G H x Q E (F x as τ)
noncomputable def dMkP (k n m : Nat) (F : FnI) (g : List PV → List PV → List PV) (a b : DPs) : DE := fun ρ τ => (a ρ τ).bind fun as τ1 => (b ρ τ1).bind fun bs τ2 => if as.length = n ∧ bs.length = m ∧ (g as bs).length + 1 = k then allX F (g as bs) τ2 else .no
noncomputable def dMkN' (k n m : Nat) (F : FnI) (g : List PV → List PV → List PV) (a b : DPs) : DE := fun ρ τ => (a ρ τ).bind fun as τ1 => (b ρ τ1).bind fun bs τ2 => if as.length = n ∧ bs.length = m ∧ (g as bs).length + 1 = k then (allX F (g as bs) τ2).nox else .no
section
variable {W : Wp} {Wx : L2.St → XK} {tr tk : TA} {δr δk : DPs}
theorem dn_mkP {k n m : Nat} {cls : Str} {C : Addr} {F : FnI} {dvs : List V} {dv : List PV} {ix : List Ix} (hC : W.cm cls = C) (hd : ∀ tp G, Paired (ArgR W tp G) dvs dv) (ha : DnPs W Wx tr δr) (hk : DnPs W Wx tk δk) :
    Dn W Wx (tMakeG C n m (spI W k cls F) (pickL dvs (.a 0 :: ix.map shIx)) Wx tr tk) (dMkP k n m F (pickL dv ix) δr δk) := fun tp G H σ ρ τ Q E P =>
  ha _ _ _ _ _ _ _ E (P.bind fun as τ1 vs G1 H1 e1 E1 r1 P1 => hk _ _ _ _ _ _ _ E1 (P1.bind fun bs τ2 zs G2 H2 e2 E2 r2 P2 => by
    subst hC
    by_cases h : as.length = n ∧ bs.length = m ∧ (pickL dv ix as bs).length + 1 = k
    · rw [if_pos h] at P2
      have r1' := args_mono r1 e2.g
      have hp := pick_rel (R := ArgR W tp G2) (hd tp G2) r1' r2 ix
      refine ⟨by rw [Paired.len r1']; exact h.1, by rw [Paired.len r2]; exact h.2.1, fun x dx nx nd ne => ?_⟩
      rw [pick_self]
      refine ⟨by rw [List.length_cons, Paired.len hp]; exact h.2.2, x, dx, H2, _, tp, G2, _, τ2, rfl, nx, nd, ne, rfl, E2.g, hp, E2.t, ?_⟩
      rcases allX_at (F := F) (as := pickL dv ix as bs) (τ := τ2) x with z | z
      · rw [z] at P2
        exact P2.elim
      · rw [z]
        revert P2
        cases allX F (pickL dv ix as bs) τ2 with
        | ok d τ' => exact fun P2 G' H' e s t r => ⟨rfl, P2 (.ref x) G' H' e (E2.ext e s t) r⟩
        | ex y τ' => exact fun P2 d G' H' e s t hx => P2 d G' H' e (E2.ext e s t) hx
        | no => exact fun P2 => P2
    · rw [if_neg h] at P2
      exact P2.elim))
theorem dn_mkN' {k n m : Nat} {cls : Str} {C : Addr} {F : FnI} {dvs : List V} {dv : List PV} {ix : List Ix} (hC : W.cm cls = C) (hd : ∀ tp G, Paired (ArgR W tp G) dvs dv) (ha : DnPs W Wx tr δr) (hk : DnPs W Wx tk δk) :
    Dn W Wx (tMakeG C n m (spI W k cls F) (pickL dvs (.a 0 :: ix.map shIx)) W0 tr tk) (dMkN' k n m F (pickL dv ix) δr δk) := fun tp G H σ ρ τ Q E P =>
  ha _ _ _ _ _ _ _ E (P.bind fun as τ1 vs G1 H1 e1 E1 r1 P1 => hk _ _ _ _ _ _ _ E1 (P1.bind fun bs τ2 zs G2 H2 e2 E2 r2 P2 => by
    subst hC
    by_cases h : as.length = n ∧ bs.length = m ∧ (pickL dv ix as bs).length + 1 = k
    · rw [if_pos h] at P2
      have r1' := args_mono r1 e2.g
      have hp := pick_rel (R := ArgR W tp G2) (hd tp G2) r1' r2 ix
      refine ⟨by rw [Paired.len r1']; exact h.1, by rw [Paired.len r2]; exact h.2.1, fun x dx nx nd ne => ?_⟩
      rw [pick_self]
      refine ⟨by rw [List.length_cons, Paired.len hp]; exact h.2.2, x, dx, H2, _, tp, G2, _, τ2, rfl, nx, nd, ne, rfl, E2.g, hp, E2.t, ?_⟩
      rcases allX_at (F := F) (as := pickL dv ix as bs) (τ := τ2) x with z | z
      · rw [z] at P2
        exact P2.elim
      · rw [z]
        revert P2
        cases allX F (pickL dv ix as bs) τ2 with
        | ok d τ' => exact fun P2 G' H' e s t r => ⟨rfl, P2 (.ref x) G' H' e (E2.ext e s t) r⟩
        | ex y τ' => exact fun P2 => P2.elim
        | no => exact fun P2 => P2.elim
    · rw [if_neg h] at P2
      exact P2.elim))
end
/-! ### the body of an __init__ -/
def putD (f : Str) (v : DD) : List (Str × DD) → List (Str × DD)
  | [] => [(f, v)]
  | (g, x) :: r => if g = f then (g, v) :: r else (g, x) :: putD f v r
theorem RpF.put {K : PySem.W.Frag} {cm : CM} {G : Hp} {f : Str} {v : V} {d : DD} (h : Rp K cm G v d) : ∀ {vs : List (Str × V)} {ds : List (Str × DD)}, RpF K cm G vs ds → RpF K cm G (putF f v vs) (putD f d ds)
  | _, _, .nil => .cons h .nil
  | _, _, .cons (k := k) a r => by
    unfold putF putD
    by_cases e : k = f
    · rw [if_pos e, if_pos e]; exact .cons h r
    · rw [if_neg e, if_neg e]; exact .cons a (RpF.put h r)
theorem RpF.len {K : PySem.W.Frag} {cm : CM} {G : Hp} : ∀ {vs : List (Str × V)} {ds : List (Str × DD)}, RpF K cm G vs ds → vs.length = ds.length
  | _, _, .nil => rfl
  | _, _, .cons _ r => congrArg Nat.succ (RpF.len r)
abbrev DI' := PEnv → TS' → List (Str × DD) → R DD
structure EnvI (W : Wp) (cls : Str) (x dx : Addr) (tp0 : Option Addr) (G0 H0 : Hp) (tp : Option Addr) (G H : Hp) (σ : L2.St) (ρ : PEnv) (τ : TS') (vs : List (Str × V)) (fs : List (Str × DD)) : Prop where
  e : EnvS W tp0 G0 H0 tp G H σ ρ τ
  h0 : H0 x = none
  g : G x = none
  nt : tp ≠ some x
  fr : FreeP W G H σ ρ x
  me : ρ[0]? = some (some (.fr (.raw x)))
  at' : H x = some (.ins (W.cm cls) dx vs)
  r : RpF W.K W.cm G vs fs
def PsI (W : Wp) (E : XK) (tp0 : Option Addr) (G0 H0 : Hp) (x : Addr) (D : Ends) : R DD → Prop
  | .ok d τ => ∀ tp' G' H' σ', Ext tp0 G0 H0 G' H' → Same G' H' → TapeO W G' H' tp' τ → (tp' = tp0 ∨ tp0 = none) → Rp W.K W.cm G' (.ref x) d → D.nx σ' H'
  | .ex e τ => ∀ d tp' G' H', Ext tp0 G0 H0 G' H' → Same G' H' → TapeO W G' H' tp' τ → (tp' = tp0 ∨ tp0 = none) → ExR W G' H' e d → E (.ref (W.cm e.cls)) d H'
  | .no => False
def DnI' (W : Wp) (E : XK) (cls : Str) (t : L2.TS) (δ : DI') : Prop := ∀ x dx tp0 G0 H0 tp G H σ ρ τ vs fs D, EnvI W cls x dx tp0 G0 H0 tp G H σ ρ τ vs fs → PsI W E tp0 G0 H0 x D (δ ρ τ fs) → t D σ H
def dIEnd (cls : Str) : DI' := fun _ τ fs => .ok (.obj cls fs) τ
def dISet (f : Str) (e : DE) (r : DI') : DI' := fun ρ τ fs => (e ρ τ).bind fun d τ1 => if fs.length < 1000 then r ρ τ1 (putD f d fs) else .no
section
variable {W : Wp} {E : XK} {cls f : Str} {x dx : Addr} {tp0 tp : Option Addr} {G0 H0 G H : Hp} {σ : L2.St} {ρ : PEnv} {τ : TS'} {vs : List (Str × V)} {fs : List (Str × DD)} {te : TE} {δe : DE} {t : L2.TS} {δ : DI'}
theorem EnvI.done (I : EnvI W cls x dx tp0 G0 H0 tp G H σ ρ τ vs fs) {D : Ends} (P : PsI W E tp0 G0 H0 x D (dIEnd cls ρ τ fs)) : D.nx σ H := by
  have sg : Same G (upd G x (.ins (W.cm cls) dx vs)) := same_new I.g
  refine P tp (upd G x (.ins (W.cm cls) dx vs)) H σ ⟨I.e.e.g.trans sg, I.e.e.h, fun p n hp hg => ?_⟩ (fun p o hp => ?_) ?_ (I.e.t.imp id fun z => z.1) (.obj upd_same (I.r.mono sg))
  · have hne : p ≠ x := fun z => hp (by rw [z]; exact I.h0)
    rw [upd_ne hne]
    exact I.e.e.f p n hp hg
  · by_cases hne : p = x
    · subst hne
      rw [upd_same] at hp
      cases hp
      exact I.at'
    · rw [upd_ne hne] at hp
      exact I.e.v.g p o hp
  · have := I.e.v.t
    have nt := I.nt
    match tp, τ, this, nt with
    | none, none, _, _ => trivial
    | some a, some τ, ⟨g, c, s, h⟩, nt => exact ⟨by rw [upd_ne (fun z => nt (by rw [z]))]; exact g, c, sg _ _ s, h⟩
theorem EnvI.set {τ1 : TS'} {G1 H1 : Hp} {v : V} {d : DD} (I : EnvI W cls x dx tp0 G0 H0 tp G H σ ρ τ vs fs) (e1 : Ext tp G H G1 H1) (E1 : EnvV W tp G1 H1 σ ρ τ1) (r1 : Rp W.K W.cm G1 v d) :
    H1 x = some (.ins (W.cm cls) dx vs) ∧ σ[0]? = some (some (.ref x)) ∧ EnvI W cls x dx tp0 G0 H0 tp G1 (upd H1 x (.ins (W.cm cls) dx (putF f v vs))) σ ρ τ1 (putF f v vs) (putD f d fs) := by
  have hx1 := e1.h x _ I.nt I.at'
  have gx1 : G1 x = none := e1.f x I.nt (by rw [I.at']; simp) I.g
  have s0 : σ[0]? = some (some (.ref x)) := by
    obtain ⟨u, h1, h2⟩ := Paired.getL E1.s I.me
    cases u with
    | none => exact h2.elim
    | some u => cases (show Rp W.K W.cm G1 u (.raw x) from h2); exact h1
  have fr1 : FreeP W G1 H1 σ ρ x := fun j c a F h1 h2 w => I.fr j c a F h1 h2 (I.e.v.backE e1 h1 h2 w)
  have E1s := I.e.step e1 E1
  have E2 := E1.mutH (o := .ins (W.cm cls) dx (putF f v vs)) gx1 I.nt fr1
  have bk : ∀ {j : Nat} {c : OC} {a : Addr} {F : List Addr}, ρ[j]? = some (some (PV.ow c)) → σ[j]? = some (some (V.ref a)) → OwR W G1 (upd H1 x (.ins (W.cm cls) dx (putF f v vs))) a c F → OwR W G1 H1 a c F := fun {j c a F} h1 h2 w => by
    obtain ⟨F0, w0, _⟩ := E1.own h1 h2
    have w1 : OwR W G1 (upd H1 x (.ins (W.cm cls) dx (putF f v vs))) a c F0 := w0.keep (Same.refl _) fun q hq u hu => by
      rw [upd_ne (fun z => fr1 _ _ _ _ h1 h2 w0 (by rw [← z]; exact hq))]; exact hu
    rw [w.uniq w1]
    exact w0
  refine ⟨hx1, s0, ⟨E2, E1s.e.mut I.h0, fun j c a F h1 h2 w => E1s.o j c a F h1 h2 (bk h1 h2 w), I.e.t⟩, I.h0, gx1, I.nt, fun j c a F h1 h2 w => fr1 j c a F h1 h2 (bk h1 h2 w), I.me, upd_same, RpF.put r1 (I.r.mono e1.g)⟩
theorem PsI.ev {D : Ends} {Q : VK} {k : DD → TS' → R DD} (I : EnvI W cls x dx tp0 G0 H0 tp G H σ ρ τ vs fs) (P : PsI W E tp0 G0 H0 x D ((δe ρ τ).bind k))
    (h : ∀ d τ1 v G1 H1, Ext tp G H G1 H1 → EnvV W tp G1 H1 σ ρ τ1 → Rp W.K W.cm G1 v d → PsI W E tp0 G0 H0 x D (k d τ1) → Q v H1) : Pg W (fun _ => E) (rE W) tp σ ρ G H Q (δe ρ τ) := by
  revert P
  cases δe ρ τ with
  | ok d τ1 => exact fun P v G1 H1 e1 E1 r1 => h d τ1 v G1 H1 e1 E1 r1 P
  | ex y τ1 => exact fun P d G1 H1 e1 E1 hx => P d tp G1 H1 (I.e.step e1 E1).e E1.g E1.t (I.e.t.imp id fun z => z.1) hx
  | no => exact fun P => P
theorem di_set (hC : Cls W.K (W.cm cls)) (hn : NoAttr W.K (W.cm cls) f) (he : Dn W (fun _ => E) te δe) (ht : DnI' W E cls t δ) : DnI' W E cls (tSeq (sFld W.K (tVar 0) te f) t) (dISet f δe δ) := fun x dx tp0 G0 H0 tp G H σ ρ τ vs fs D I P =>
  he _ _ _ _ _ _ _ I.e.v (P.ev I fun d τ1 v G1 H1 e1 E1 r1 P1 => by
    by_cases hl : fs.length < 1000
    · rw [if_pos hl] at P1
      obtain ⟨a1, a2, a3⟩ := I.set (f := f) e1 E1 r1
      exact ⟨_, a2, x, _, dx, vs, rfl, a1, hC, hn, by rw [RpF.len I.r]; exact hl, ht _ _ _ _ _ _ _ _ _ _ _ _ _ _ a3 P1⟩
    · rw [if_neg hl] at P1
      exact P1.elim)
theorem di_last (hC : Cls W.K (W.cm cls)) (hn : NoAttr W.K (W.cm cls) f) (he : Dn W (fun _ => E) te δe) : DnI' W E cls (sFld W.K (tVar 0) te f) (dISet f δe (dIEnd cls)) := fun x dx tp0 G0 H0 tp G H σ ρ τ vs fs D I P =>
  he _ _ _ _ _ _ _ I.e.v (P.ev I fun d τ1 v G1 H1 e1 E1 r1 P1 => by
    by_cases hl : fs.length < 1000
    · rw [if_pos hl] at P1
      obtain ⟨a1, a2, a3⟩ := I.set (f := f) e1 E1 r1
      exact ⟨_, a2, x, _, dx, vs, rfl, a1, hC, hn, by rw [RpF.len I.r]; exact hl, a3.done P1⟩
    · rw [if_neg hl] at P1
      exact P1.elim)
end
def fixR (τ : TS') : R DD → R DD
  | .ok d τ' => .ok d (fixT τ τ')
  | .ex x τ' => .ex x (fixT τ τ')
  | .no => .no
/-- what stands ahead of the first field, then the fields -/
def bodyI2 (tail : DI') (x : Addr) (τ : TS') (ρ : PEnv) (τ' : TS') : Option (Option PV) → R DD
  | some (some (.fr (.raw y))) => if y = x then fixR τ (tail ρ τ' []) else .no
  | _ => .no
def bodyI (n : Nat) (pre : DS) (tail : DI') : FnI := fun x as τ => match pre (startP n (.fr (.raw x) :: as)) τ with
  | .ok (.nx ρ) τ' => bodyI2 tail x τ ρ τ' ρ[0]?
  | .ok (.xc e _) τ' => .ex e (fixT τ τ')
  | _ => .no
theorem TapeO.newH {W : Wp} {tp : Option Addr} {G H : Hp} {τ : TS'} {p : Addr} {o : HO} (t : TapeO W G H tp τ) (n : H p = none) : TapeO W G (upd H p o) tp τ := t.ext (Ext.newH n)
theorem TapeO.ne {W : Wp} {tp : Option Addr} {G H : Hp} {τ : TS'} {p : Addr} (t : TapeO W G H tp τ) (n : H p = none) : tp ≠ some p := fun z => by
  subst z
  cases τ with
  | none => exact t
  | some t' => obtain ⟨_, c, _, e⟩ := t; rw [n] at e; cases e
section
variable {W : Wp} {E : XK} {cls : Str} {N : List Str} {k : Nat} {t u : L2.TS} {δ : DI'} {pre : DS} {vs : List V} {Q : VK} {H : Hp}
theorem start_I {x dx : Addr} {H0 G : Hp} {tp : Option Addr} {rest : List V} {as : List PV} {τ : TS'} (nx : H0 x = none) (nd : H0 dx = none) (ne : dx ≠ x) (s : Same G H0) (a : Paired (ArgR W tp G) rest as) (tt : TapeO W G H0 tp τ) :
    EnvS W tp G (upd (upd H0 dx (.own x)) x (.ins (W.cm cls) dx [])) tp G (upd (upd H0 dx (.own x)) x (.ins (W.cm cls) dx [])) (L2.start N (.ref x :: rest)) (startP N.length (.fr (.raw x) :: as)) τ ∧ Ext tp G H0 G (upd (upd H0 dx (.own x)) x (.ins (W.cm cls) dx [])) := by
  have nx' : upd H0 dx (.own x) x = none := by rw [upd_ne (Ne.symm ne)]; exact nx
  exact ⟨start_env (N := N) ((s.trans (same_new nd)).trans (same_new nx')) (.cons (.raw x) a) ((tt.newH nd).newH nx'), (Ext.newH nd).trans (Ext.newH nx')⟩
theorem rebase {x dx : Addr} {H0 G G' H' : Hp} {tp tp' : Option Addr} {σ : L2.St} {ρ : PEnv} {τ : TS'} (nx : H0 x = none) (nd : H0 dx = none) (ne : dx ≠ x) (s : Same G H0) (nt : tp ≠ some x) (me : ρ[0]? = some (some (.fr (.raw x))))
    (E1 : EnvS W tp G (upd (upd H0 dx (.own x)) x (.ins (W.cm cls) dx [])) tp' G' H' σ ρ τ) : EnvI W cls x dx tp G H0 tp' G' H' σ ρ τ [] [] := by
  have nx' : upd H0 dx (.own x) x = none := by rw [upd_ne (Ne.symm ne)]; exact nx
  have e0 : Ext tp G H0 G (upd (upd H0 dx (.own x)) x (.ins (W.cm cls) dx [])) := (Ext.newH nd).trans (Ext.newH nx')
  have old : ∀ p, upd (upd H0 dx (.own x)) x (.ins (W.cm cls) dx []) p = none → H0 p = none ∧ p ≠ x := fun p hp => by
    have h1 : p ≠ x := fun z => by rw [z, upd_same] at hp; cases hp
    rw [upd_ne h1] at hp
    have h2 : p ≠ dx := fun z => by rw [z, upd_same] at hp; cases hp
    rw [upd_ne h2] at hp
    exact ⟨hp, h1⟩
  have gx : G x = none := s.free nx
  refine ⟨⟨E1.v, e0.trans E1.e, fun j c a F h1 h2 w p hp => (old p (E1.o j c a F h1 h2 w p hp)).1, E1.t.imp id fun ⟨z, p, hp, hq⟩ => ⟨z, p, hp, (old p hq).1⟩⟩, nx, E1.e.f x nt (by rw [upd_same]; simp) gx, ?_, fun j c a F h1 h2 w hp => (old x (E1.o j c a F h1 h2 w x hp)).2 rfl, me, E1.e.h x _ nt upd_same, .nil⟩
  rcases E1.t with z | ⟨z, p, hp, hq⟩
  · rw [z]; exact nt
  · rw [hp]
    intro y
    cases y
    exact (old _ hq).2 rfl
theorem fixI {x : Addr} {G H0 : Hp} {tp : Option Addr} {τ : TS'} {r : R DD} (tt : TapeO W G H0 tp τ) (P : IPost W tp G H0 x Q E (fixR τ r)) : PsI W E tp G H0 x { nx := fun _ H' => Q .non H', rt := Q } r := by
  cases r with
  | ok d τ' => exact fun tp' G' H' σ' e s t q r => P G' H' e s (fix_tape tt t q) r
  | ex y τ' => exact fun d tp' G' H' e s t q hx => P d G' H' e s (fix_tape tt t q) hx
  | no => exact P
theorem body_okI (hp : DnS W (fun _ => E) t pre) (ht : DnI' W E cls u δ) (h : spI W k cls (bodyI N.length pre δ) vs H Q E) : tSeq t u { nx := fun _ H' => Q .non H', rt := Q } (L2.start N vs) H := by
  obtain ⟨_, x, dx, H0, rest, tp, G, as, τ, rfl, nx, nd, ne, rfl, s, a, tt, P⟩ := h
  obtain ⟨E1, e0⟩ := start_I (W := W) (cls := cls) (N := N) nx nd ne s a tt
  refine hp _ _ _ _ _ _ _ _ _ _ E1 ?_
  have nt : tp ≠ some x := tt.ne nx
  unfold bodyI at P
  revert P
  match pre (startP N.length (.fr (.raw x) :: as)) τ with
  | .ok (.nx ρ) τ' =>
    intro P tp' G' H' σ' s' E'
    dsimp only [bodyI2] at P
    split at P
    · rename_i y me
      by_cases hy : y = x
      · subst hy
        rw [if_pos rfl] at P
        exact ht _ _ _ _ _ _ _ _ _ _ _ _ _ _ (rebase nx nd ne s nt me E') (fixI tt P)
      · rw [if_neg hy] at P
        exact P.elim
    · exact P.elim
  | .ok (.xc y ρ) τ' => exact fun P d tp' G' H' σ' s' E' hx => P d G' H' (e0.trans E'.e) E'.v.g (fix_tape tt E'.v.t (E'.t.imp id fun z => z.1)) hx
  | .ok (.rt d) τ' => exact fun h => h.elim
  | .ok (.bk ρ) τ' => exact fun h => h.elim
  | .ok (.ro ρ) τ' => exact fun h => h.elim
  | .ok (.ct ρ) τ' => exact fun h => h.elim
  | .ex x τ' => exact fun h => h.elim
  | .no => exact fun h => h.elim
theorem body_okI0 (ht : DnI' W E cls u δ) (h : spI W k cls (bodyI N.length dNx δ) vs H Q E) : u { nx := fun _ H' => Q .non H', rt := Q } (L2.start N vs) H := by
  have := body_okI (t := tNext) ds_next ht h
  exact this
end
end Np

set_option Elab.async false
set_option linter.all false
set_option maxRecDepth 100000
set_option maxHeartbeats 4000000
namespace Np
open PySem PySem.Spec PyProof.Rows L2
/-! ### o.m(..) -/
def tMethE (C : Addr) (m : Str) (sp : Sp) (E : L2.St → XK) (ta : TE) (t : TA) : TE := fun σ H Q => ta σ H fun x H1 => ∃ a dx fs, x = .ref a ∧ H1 a = some (.ins C dx fs) ∧ fs.lookup m = none ∧ t σ H1 fun vs H2 => sp (x :: vs) H2 Q (E σ)
/-- what a class brings with a method -/
def MeC (P : Program) (w : World) (K : PySem.W.Frag) (mg : Str → Option Value) (base : Heap) (CX : CXT) (k : Nat) (C : Addr) (m : Str) (ps : List Str) (sp : Sp) : Prop :=
  ∃ (f : Addr) (fd : FuncData), Meth K C m f ∧ FnG P w K mg base CX k f fd ps sp ∧ Binds K fd ps []
section
variable {X : Cx} {CX : CXT} {k : Nat} {C : Addr} {ps : List Str} {sp : Sp} {E : L2.St → XK} {m : Str} {pos apos : Pos} {e o : Expr} {es : List Expr} {ta : TE} {t : TA}
theorem pe_mG {pl : Sem Bool} (h : MeC X.prog X.w X.K X.mg X.base CX k C m ps sp) (c : Cls X.K C) (hgd : X.A.guards = some []) (hr : Room k X.A) (hx : ∀ σ, PassesAt CX X σ (E σ)) (he : PE X o ta) (ha : PA X (e :: es) t)
    (hst : starEach (e :: es) X.env = (false, eval e X.env) :: starEach es X.env := by rfl) (hpl : (backTo pos (starEach es X.env)).any (·.1) = false := by rfl)
    (ht : eval (.Call (.Attribute o m apos) (e :: es) [] pos) X.env = (do
      let ov ← eval o X.env
      standAt apos.atName
      let (f, first) ← holding [ov] (getMethod ov m pl)
      callWith pos f first (backTo pos (starEach (e :: es) X.env)) (backToKw pos (keywordEach [] X.env))) := by rfl) :
    PE X (.Call (.Attribute o m apos) (e :: es) [] pos) (tMethE C m sp E ta t) := by
  obtain ⟨f, fd, hm, F, hb⟩ := h
  refine ⟨fun pins s σ H Q I h => ?_⟩
  refine PySem.W.methodCall_KW (pl := pl) (L2.thn (he.run pins s σ H _ I h) fun u s1 ⟨x, H1, I1, rx, a, dx, fs, ex, ea, l, q⟩ => ?_) ht
  subst ex
  obtain rfl : u = Value.ref a := rx
  refine getmeth_ok I1 ea c hm l ?_
  refine PySem.W.callWith_K (first := [.ref a]) (h₀ := X.base) I.ok.mod.kin hm.kp (L2.thn (ha.run pos pins s1 σ H1 _ I1 q) fun us s2 ⟨vs, H2, I2, r, q2⟩ => ⟨I2.kIn, ?_⟩) hst hpl
  exact run_gw (us := .ref a :: us) (vs := .ref a :: vs) (dvs := []) (ds := []) F hgd hr hb .nil (hx σ) I2 (.cons rfl r) (by rw [List.append_nil]; exact q2)
theorem pe_mG0 {pl : Sem Bool} (h : MeC X.prog X.w X.K X.mg X.base CX k C m ps sp) (c : Cls X.K C) (hgd : X.A.guards = some []) (hr : Room k X.A) (hx : ∀ σ, PassesAt CX X σ (E σ)) (he : PE X o ta)
    (ht : eval (.Call (.Attribute o m apos) [] [] pos) X.env = (do
      let ov ← eval o X.env
      standAt apos.atName
      let (f, first) ← holding [ov] (getMethod ov m pl)
      callWith pos f first (backTo pos (starEach [] X.env)) (backToKw pos (keywordEach [] X.env))) := by rfl) :
    PE X (.Call (.Attribute o m apos) [] [] pos) (tMethE C m sp E ta tNil) := by
  obtain ⟨f, fd, hm, F, hb⟩ := h
  refine ⟨fun pins s σ H Q I h => ?_⟩
  refine PySem.W.methodCall_KW (pl := pl) (L2.thn (he.run pins s σ H _ I h) fun u s1 ⟨x, H1, I1, rx, a, dx, fs, ex, ea, l, q⟩ => ?_) ht
  subst ex
  obtain rfl : u = Value.ref a := rx
  refine getmeth_ok I1 ea c hm l ?_
  exact PySem.W.callWith_K0 (first := [.ref a]) I1.kIn hm.kp (run_gw (us := [.ref a]) (vs := [.ref a]) (dvs := []) (ds := []) F hgd hr hb .nil (hx σ) I1 (.cons rfl .nil) q)
end
def dMethP (k : Nat) (cls m : Str) (F : Fn) (a : DE) (r : DPs) : DE := fun ρ τ => (a ρ τ).bind fun x τ1 => match x with
  | .obj C fs => if C = cls ∧ fs.lookup m = none then (r ρ τ1).bind fun as τ2 => if as.length + 1 = k then F (.fr (.obj C fs) :: as) τ2 else .no
    else .no
  | _ => .no
def dMethN (k : Nat) (cls m : Str) (F : Fn) (a : DE) (r : DPs) : DE := fun ρ τ => (a ρ τ).bind fun x τ1 => match x with
  | .obj C fs => if C = cls ∧ fs.lookup m = none then (r ρ τ1).bind fun as τ2 => if as.length + 1 = k then (F (.fr (.obj C fs) :: as) τ2).nox else .no
    else .no
  | _ => .no
section
variable {W : Wp} {Wx : L2.St → XK} {ta : TE} {tr : TA} {δa : DE} {δr : DPs}
theorem RpF.lookN {K : PySem.W.Frag} {cm : CM} {G : Hp} {f : Str} : ∀ {vs : List (Str × V)} {ds : List (Str × DD)}, RpF K cm G vs ds → ds.lookup f = none → vs.lookup f = none
  | _, _, .nil, _ => rfl
  | _, _, .cons (k := k) a r, h => by
    rw [List.lookup_cons] at h ⊢
    by_cases e : (f == k) = true
    · rw [e] at h; cases h
    · have e' : (f == k) = false := by simpa using e
      rw [e'] at h ⊢
      exact RpF.lookN r h
theorem dn_methP {k : Nat} {cls m : Str} {C : Addr} {F : Fn} (hC : W.cm cls = C) (ha : Dn W Wx ta δa) (hr : DnPs W Wx tr δr) : Dn W Wx (tMethE C m (spP W k F) Wx ta tr) (dMethP k cls m F δa δr) := fun tp G H σ ρ τ Q E P =>
  ha _ _ _ _ _ _ _ E (P.bind fun x τ1 v G1 H1 e1 E1 r1 P1 => by
    subst hC
    split at P1
    · rename_i C fs
      by_cases h : C = cls ∧ fs.lookup m = none
      · rw [if_pos h] at P1
        obtain ⟨rfl, hl⟩ := h
        cases r1 with | obj hg rf =>
        refine ⟨_, _, _, rfl, E1.g _ _ hg, rf.lookN hl, hr _ _ _ _ _ _ _ E1 (P1.bind fun as τ2 vs G2 H2 e2 E2 r2 P2 => ?_)⟩
        by_cases hk : as.length + 1 = k
        · rw [if_pos hk] at P2
          exact ⟨by rw [List.length_cons, Paired.len r2]; exact hk, tp, G2, _, τ2, E2.g, .cons (show ArgR W tp G2 _ (.fr _) from (Rp.obj hg rf).mono e2.g) r2, E2.t, FnPost.of E2 P2⟩
        · rw [if_neg hk] at P2
          exact P2.elim
      · rw [if_neg h] at P1
        exact P1.elim
    · exact P1.elim)
theorem dn_methN {k : Nat} {cls m : Str} {C : Addr} {F : Fn} (hC : W.cm cls = C) (ha : Dn W Wx ta δa) (hr : DnPs W Wx tr δr) : Dn W Wx (tMethE C m (spP W k F) W0 ta tr) (dMethN k cls m F δa δr) := fun tp G H σ ρ τ Q E P =>
  ha _ _ _ _ _ _ _ E (P.bind fun x τ1 v G1 H1 e1 E1 r1 P1 => by
    subst hC
    split at P1
    · rename_i C fs
      by_cases h : C = cls ∧ fs.lookup m = none
      · rw [if_pos h] at P1
        obtain ⟨rfl, hl⟩ := h
        cases r1 with | obj hg rf =>
        refine ⟨_, _, _, rfl, E1.g _ _ hg, rf.lookN hl, hr _ _ _ _ _ _ _ E1 (P1.bind fun as τ2 vs G2 H2 e2 E2 r2 P2 => ?_)⟩
        by_cases hk : as.length + 1 = k
        · rw [if_pos hk] at P2
          refine ⟨by rw [List.length_cons, Paired.len r2]; exact hk, tp, G2, _, τ2, E2.g, .cons (show ArgR W tp G2 _ (.fr _) from (Rp.obj hg rf).mono e2.g) r2, E2.t, ?_⟩
          revert P2
          cases F (.fr (.obj C fs) :: as) τ2 with
          | ok d τ' => exact fun P1 v G' H' e s t r => P1 v G' H' e (E2.ext e s t) r
          | ex x τ' => exact fun P1 => P1.elim
          | no => exact fun P1 => P1.elim
        · rw [if_neg hk] at P2
          exact P2.elim
      · rw [if_neg h] at P1
        exact P1.elim
    · exact P1.elim)
end
/-! ### special methods -/
/-- what a class brings with a special method of its own -/
def SpC (P : Program) (w : World) (K : PySem.W.Frag) (mg : Str → Option Value) (base : Heap) (k : Nat) (C : Addr) (m : Str) (ps : List Str) (sp : Sp) : Prop :=
  ∃ (f : Addr) (fd : FuncData), FnG P w K mg base CX0 k f fd ps sp ∧ Binds K fd ps [] ∧ PySem.W.findIn K (.ref C) m = some (some (.ref f)) ∧ PySem.W.isFn K (.ref f) = true
theorem cr_lenC {X : Cx} {C : Addr} {ps : List Str} {sp : Sp} {k : Nat} (h : SpC X.prog X.w X.K X.mg X.base k C "__len__" ps sp) (hgd : X.A.guards = some []) (hr : Room (k + 1) X.A) : CallR X (.builtin "len") (rLenO C sp) := by
  obtain ⟨f, fd, F, hb, hs, hf⟩ := h
  exact cr_lenO F hgd hr hb hs hf
/-- the special method is called with self (and another value) -/
theorem run_sp {X : Cx} {pins : List (Addr × Obj)} {σ : L2.St} {H : Hp} {s : Shared} {f : Addr} {fd : FuncData} {ps : List Str} {sp : Sp} {k : Nat} {A : Around} {vs : List V} {us : List Value} {Q : VK} {R : Value → Shared → Prop} {E : Value → Shared → Prop}
    (F : FnG X.prog X.w X.K X.mg X.base CX0 k f fd ps sp) (hb : Binds X.K fd ps []) (hgd : A.guards = some []) (hr : Room k A) (hfr : A.frames = X.A.frames) (I : L2.Inv X pins σ H s) (r : Vals vs us) (hsp : sp vs H Q E0)
    (h : ∀ u s', EP X pins σ Q u s' → R u s') : wpAny (model X.prog X.w) A (call (.ref f) us) R E s := by
  have e0 : Env0 X.prog X.w X.K X.mg X.base A X.stack s H := by
    have e := I.env0
    exact ⟨by rw [hfr]; exact e.frames, e.mod, e.bs, e.bsz, e.funs, e.frf, e.hok, e.bare⟩
  have hl := F.len _ _ _ _ hsp
  refine wpAny_call (codeAny_mono (F.run A X.stack s H ⟨us, []⟩ us vs _ E0 hgd hr e0 (by
    have := hb s us I.kIn (by rw [List.append_nil, ← r.length]; exact hl)
    simpa using this) r hsp) fun r s' hq => ?_)
  cases r with
  | error e => exact hq.elim
  | ok fl =>
    cases fl with
    | ret u => exact h u s' (I.after hq)
    | next => exact False.elim hq
    | brk => exact False.elim hq
    | cont => exact False.elim hq
def rStrO (C : Addr) (sp : Sp) : List V → Hp → VK → Prop := fun xs H Q => ∃ (a dx : Addr) (fs : List (Str × V)), xs = [.ref a] ∧ H a = some (.ins C dx fs) ∧ sp [.ref a] H (fun v H' => ∃ z : Str, v = .str z ∧ Q (.str z) H') E0
theorem cr_strO {X : Cx} {C : Addr} {ps : List Str} {sp : Sp} {k : Nat} (h : SpC X.prog X.w X.K X.mg X.base k C "__str__" ps sp) (hgd : X.A.guards = some []) (hr : Room (k + 2) X.A) : CallR X (.type "str") (rStrO C sp) := by
  obtain ⟨f, fd, F, hb, hs, hf⟩ := h
  intro pins s σ H xs us Q I r h
  obtain ⟨a, dx, fs, rfl, ha, hsp⟩ := h
  cases r with | cons r rr =>
  cases rr
  cases r
  obtain ⟨mA, J, _⟩ := ins_get I.hok ha
  obtain ⟨od, J, _⟩ := J.look
  refine str_call (strOf_fn (K := X.K) (by have := hr.in1.in1.un; omega) I.kIn J hs hf ?_)
  refine run_sp F hb hgd hr.in1.in1 rfl I (show Vals [V.ref a] [Value.ref a] from .cons rfl .nil) hsp fun u s' hq => ?_
  obtain ⟨z, H', I', rz, y, ez, q⟩ := hq
  subst ez
  obtain ⟨t, rfl⟩ := rz
  exact ⟨y, t, rfl, typeIs_str _ _ _, .str y, H', I', ⟨_, rfl⟩, q⟩
theorem cr_reprO {X : Cx} {C : Addr} {ps : List Str} {sp : Sp} {k : Nat} (h : SpC X.prog X.w X.K X.mg X.base k C "__repr__" ps sp) (hgd : X.A.guards = some []) (hr : Room (k + 1) X.A) : CallR X (.builtin "repr") (rStrO C sp) := by
  obtain ⟨f, fd, F, hb, hs, hf⟩ := h
  intro pins s σ H xs us Q I r h
  obtain ⟨a, dx, fs, rfl, ha, hsp⟩ := h
  cases r with | cons r rr =>
  cases rr
  cases r
  obtain ⟨mA, J, _⟩ := ins_get I.hok ha
  obtain ⟨od, J, _⟩ := J.look
  obtain ⟨m, hF⟩ := I.fr
  refine PySem.W.repr_K (by have := hr.in1.un; omega) hF I.ok.mod.kin J hs hf ?_
  refine run_sp F hb hgd hr.in1 rfl I (show Vals [V.ref a] [Value.ref a] from .cons rfl .nil) hsp fun u s' hq => ?_
  obtain ⟨z, H', I', rz, y, ez, q⟩ := hq
  subst ez
  obtain ⟨t, rfl⟩ := rz
  exact ⟨.str y, H', I', ⟨_, rfl⟩, q⟩
section
variable {W : Wp} {Wx : L2.St → XK} {ta : TA} {δa : DA}
def dStrO (cls : Str) (F : Fn) (a : DA) : DE := fun ρ τ => (a ρ τ).bind fun xs τ1 => match xs with
  | [.obj C fs] => if C = cls then (F [.fr (.obj C fs)] τ1).nox.bind fun d τ2 => match d with
      | .str z => .ok (.str z) τ2
      | _ => .no
    else .no
  | _ => .no
theorem dn_strO {cls : Str} {C : Addr} {F : Fn} (hC : W.cm cls = C) (ha : DnA W Wx ta δa) : Dn W Wx (tCB (rStrO C (spP W 1 F)) ta) (dStrO cls F δa) := fun tp G H σ ρ τ Q E P =>
  ha _ _ _ _ _ _ _ E (P.bind fun as τ1 vs G1 H1 e1 E1 r1 P1 => by
    subst hC
    split at P1
    · rename_i C fs
      by_cases h : C = cls
      · subst h
        rw [if_pos rfl] at P1
        cases r1 with | cons r rs =>
        cases rs
        cases r with | obj hg rf =>
        refine ⟨_, _, _, rfl, E1.g _ _ hg, rfl, tp, G1, _, τ1, E1.g, .cons (show ArgR W tp G1 _ (.fr _) from Rp.obj hg rf) .nil, E1.t, ?_⟩
        revert P1
        cases F [.fr (.obj C fs)] τ1 with
        | ok d τ' =>
          intro P1 v G' H' e s t r
          cases d <;> first | exact P1.elim | skip
          rename_i z
          simp only [R.nox_ok, R.bind_ok] at P1
          exact ⟨z, r.str_of, P1 _ G' H' e (E1.ext e s t) (.str z)⟩
        | ex x τ' => exact fun P1 => P1.elim
        | no => exact fun P1 => P1.elim
      · rw [if_neg h] at P1
        exact P1.elim
    · exact P1.elim)
end
end Np

set_option Elab.async false
set_option linter.all false
set_option maxRecDepth 100000
set_option maxHeartbeats 4000000
namespace Np
open PySem PySem.Spec PyProof.Rows L2
/-! ### what kind of thing a value is -/
inductive TyQ (H : Hp) : V → Value → Prop
  | non : TyQ H .non (.type "NoneType")
  | bl (b : Bool) : TyQ H (.bl b) (.type "bool")
  | int (i : Int) : TyQ H (.int i) (.type "int")
  | str (x : Str) : TyQ H (.str x) (.type "str")
  | lst {a : Addr} {xs : List V} : H a = some (.lst xs) → TyQ H (.ref a) (.type "list")
  | tup {a : Addr} {xs : List V} : H a = some (.tup xs) → TyQ H (.ref a) (.type "tuple")
  | dK {a : Addr} {xs : List (Key × V)} : H a = some (.dK xs) → TyQ H (.ref a) (.type "dict")
  | ins {a C dx : Addr} {fs : List (Str × V)} : H a = some (.ins C dx fs) → TyQ H (.ref a) (.ref C)
theorem looks_ty {X : Cx} {pins : List (Addr × Obj)} {σ : L2.St} {H : Hp} {s : Shared} {y : V} {v t : Value} (I : L2.Inv X pins σ H s) (ry : RelV y v) (h : TyQ H y t) : PySem.W.Looks (model X.prog X.w) s.heap (typeOf v) t := by
  cases h with
  | non => cases (show v = Value.none from ry); exact .of_pure rfl
  | bl b => cases (show v = Value.bool b from ry); exact .of_pure rfl
  | int i => obtain ⟨t, q⟩ := (show ∃ t, v = Value.int i t from ry); cases q; exact .of_pure rfl
  | str x => obtain ⟨t, q⟩ := (show ∃ t, v = Value.str x t from ry); cases q; exact .of_pure rfl
  | @lst a xs e =>
    cases (show v = Value.ref a from ry)
    obtain ⟨_, _, n, _, h1⟩ := (show ObjOk X.prog X.w H s.heap a (.lst xs) from I.hok a _ e)
    exact fun A Q E s k q => wpAny_typeOf_ref (k _ _ h1) q
  | @tup a xs e =>
    cases (show v = Value.ref a from ry)
    obtain ⟨_, _, _, o, h1, h2, _⟩ := (show ObjOk X.prog X.w H s.heap a (.tup xs) from I.hok a _ e)
    exact fun A Q E s k q => wpAny_typeOf_ref (k _ _ h1) (by rw [h2]; exact q)
  | @dK a xs e =>
    cases (show v = Value.ref a from ry)
    obtain ⟨_, _, vs, _, o, es, ep, h1, h2, _⟩ := (show ObjOk X.prog X.w H s.heap a (.dK xs) from I.hok a _ e)
    exact fun A Q E s k q => wpAny_typeOf_ref (k _ _ h1) (by rw [h2.1]; exact q)
  | @ins a C dx fs e =>
    cases (show v = Value.ref a from ry)
    obtain ⟨mA, J, _⟩ := ins_get I.hok e
    obtain ⟨od, J, _⟩ := J.look
    exact J.type
/-- what the written part says of a plain own class -/
structure OwnC (K : PySem.W.Frag) (C : Addr) : Prop where
  cl : Cls K C
  ha : PySem.W.findIn K (.ref C) "__class__" = some (some (.builtin "object.__class__"))
  hn : PySem.W.specialIn K (.builtin "object.__class__") "__get__" = some (some (.builtin "getset_descriptor.__get__"))
  htk : PySem.W.takesIn K (.builtin "object.__class__") = some true
  hm : PySem.W.mroIn K C (.type "object") = some true
/-! ### x == y, x != y by an own __eq__ of x -/
def rEqO (K : PySem.W.Frag) (C : Addr) (neg : Bool) (sp : Sp) : R2 := fun x y H Q => ∃ (a dx : Addr) (fs : List (Str × V)) (t : Value), x = .ref a ∧ H a = some (.ins C dx fs) ∧ TyQ H y t ∧ PySem.W.notFirst K C t = true ∧
  sp [x, y] H (fun v H' => ∃ b : Bool, v = .bl b ∧ Q (.bl (xor neg b)) H') E0
section
variable {X : Cx} {C : Addr} {ps : List Str} {sp : Sp} {k : Nat}
theorem op_eqO (h : SpC X.prog X.w X.K X.mg X.base k C "__eq__" ps sp) (hgd : X.A.guards = some []) (hr : Room k X.A) : OpR X (compareOp .Eq) (rEqO X.K C false sp) := by
  obtain ⟨f, fd, F, hb, hs, hf⟩ := h
  intro pins s σ H x y u v Q I rx ry hq
  obtain ⟨a, dx, fs, t, rfl, ha, ty, nf, hsp⟩ := hq
  cases (show u = Value.ref a from rx)
  obtain ⟨mA, J, _⟩ := ins_get I.hok ha
  obtain ⟨od, J, _⟩ := J.look
  obtain ⟨m, hF⟩ := I.fr
  refine PySem.W.cmp_K (op := .Eq) (tb := t) hr.units0 hF I.ok.mod.kin J (looks_ty I ry ty) nf hs hf ?_
  refine run_sp F hb hgd hr rfl I (show Vals [V.ref a, y] [Value.ref a, v] from .cons rfl (.cons ry .nil)) hsp fun u s' hq => ?_
  obtain ⟨z, H', I', rz, b, ez, q⟩ := hq
  subst ez
  cases (show u = Value.bool b from rz)
  rw [Bool.false_xor] at q
  exact ⟨.bl b, H', I', rfl, q⟩
/-- the builtin of a class found by the written part -/
theorem ifBound_B {prog : Program} {w : World} {A : Around} {E : Value → Shared → Prop} {s : Shared} {K : PySem.W.Frag} {x C : Addr} {ox : Obj} {od : Option Obj} {name : Str} {i B : String} {args : List Value} {Q : Option Value → Shared → Prop}
    (Xk : K.In s.heap) (I : PySem.W.InstAt s.heap x ox C od) (hs : PySem.W.findIn K (.ref C) name = some (some (.builtin i))) (S : Slot B name i)
    (h : wpAny (model prog w) A (call (.builtin i) (.ref x :: args)) (fun v => Q (some v)) E s) : wpAny (model prog w) A (callSpecialIfBound? (.ref x) name args) Q E s := by
  simp only [callSpecialIfBound?, bindSpecialIfBound?]
  refine wpAny_holding (wpAny_bind (wpAny_bind (wpAny_bind (I.type.here ((PySem.W.looks_findIn Xk hs).here ?_)))))
  simp only [S.bind]
  refine wpAny_bind (wpAny_askSetting (wpAny_ite ?_))
  have fin : wpAny (model prog w) A (call (.builtin i) ([.ref x] ++ args) >>= fun v => pure (some v)) Q E s := wpAny_bind (wpAny_mono h (fun v s' h' => wpAny_pure h') fun _ _ h' => h')
  split
  · exact wpAny_bind (wpAny_pure (wpAny_pure (by exact fin)))
  · exact wpAny_tryCatch (wpAny_bind (wpAny_pure (wpAny_pure (by exact fin))))
theorem op_neO (h : SpC X.prog X.w X.K X.mg X.base k C "__eq__" ps sp) (hne : PySem.W.findIn X.K (.ref C) "__ne__" = some (some (.builtin "object.__ne__"))) (hm : PySem.W.mroIn X.K C (.type "object") = some true)
    (hgd : X.A.guards = some []) (hr : Room (k + 1) X.A) : OpR X (compareOp .NotEq) (rEqO X.K C true sp) := by
  obtain ⟨f, fd, F, hb, hs, hf⟩ := h
  intro pins s σ H x y u v Q I rx ry hq
  obtain ⟨a, dx, fs, t, rfl, ha, ty, nf, hsp⟩ := hq
  cases (show u = Value.ref a from rx)
  obtain ⟨mA, J, _⟩ := ins_get I.hok ha
  obtain ⟨od, J, _⟩ := J.look
  have Xk := I.kIn
  have hu : X.A.units < cLine := hr.units0
  have hu1 : X.A.in1.units < cLine := hr.in1.units0
  have one : wpAny (model X.prog X.w) X.A (tryCompare (.ref a) "__ne__" v) (fun r s' => ∃ u, r = some u ∧ EP X pins σ Q u s') X.xe s := by
    unfold tryCompare
    refine wpAny_bind (ifBound_B Xk J hne PySem.F.cmp_object.ne ?_)
    have sub : PySem.W.Looks (model X.prog X.w) s.heap (isInstance (.ref a) (.type "object")) true := J.type.andThen (PySem.W.looks_mroIn Xk hm)
    refine wpAny_call (codeAny_call_builtin PySem.F.cmp_object.ne.plain PySem.F.cmpEntry_ne (@PySem.W.check_slot (model X.prog X.w) _ _ s "object.__ne__" "object" "__ne__" (.ref a) [v] [] _ PySem.F.cmpKind_ne PySem.F.cmpSplit_ne sub (PySem.F.cmpArgs_ne _ _) ?_))
    unfold Builtin.«object.__ne__»
    refine wpAny_bind (wpAny_pure ?_)
    refine wpAny_bind (wpAny_cRoomFor hu1 ?_)
    refine wpAny_bind (PySem.W.ifBound_K Xk J hs hf ?_)
    refine run_sp F hb hgd hr.in1 rfl I (show Vals [V.ref a, y] [Value.ref a, v] from .cons rfl (.cons ry .nil)) hsp fun u s' hq => ?_
    obtain ⟨z, H', I', rz, b, ez, q⟩ := hq
    subst ez
    cases (show u = Value.bool b from rz)
    refine wpAny_bind (wpAny_truthy_bool (wpAny_pure ?_))
    rw [Bool.true_xor] at q
    exact wpAny_pure ⟨_, rfl, .bl (!b), H', I', rfl, q⟩
  show wpAny (model X.prog X.w) X.A (richCompare .NotEq (.ref a) v) (EP X pins σ Q) X.xe s
  unfold richCompare
  simp only [oneThing_ref]
  refine wpAny_holding (wpAny_bind (wpAny_cRoomFor hu ?_))
  refine wpAny_bind (J.type.here (wpAny_bind ((looks_ty I ry ty).here ?_)))
  split
  · rename_i q
    have e : PySem.W.subIn X.K t (.ref C) = some false := by
      rcases Bool.or_eq_true_iff.mp nf with e | e
      · rw [beq_iff_eq.mp e] at q; simp at q
      · exact beq_iff_eq.mp e
    refine wpAny_bind ((PySem.W.looks_subIn Xk e).here ?_)
    simp only [Bool.false_eq_true, if_false]
    refine wpAny_bind (wpAny_mono one (fun r s' z => ?_) fun _ _ e => e)
    obtain ⟨v, rfl, hq⟩ := z
    exact wpAny_pure hq
  · refine wpAny_bind (wpAny_pure ?_)
    simp only [Bool.false_eq_true, if_false]
    refine wpAny_bind (wpAny_mono one (fun r s' z => ?_) fun _ _ e => e)
    obtain ⟨v, rfl, hq⟩ := z
    exact wpAny_pure hq
end
/-- y may stand beside an object of the class -/
def sideY (cls : Str) : DD → Bool
  | .obj C _ => decide (C = cls)
  | .exc _ _ => false
  | .raw _ => false
  | _ => true
def tysQ : List Value := [.type "NoneType", .type "bool", .type "int", .type "str", .type "list", .type "tuple", .type "dict"]
def dEqO (neg : Bool) (cls : Str) (F : Fn) (a b : DE) : DE := fun ρ τ => (a ρ τ).bind fun x τ1 => (b ρ τ1).bind fun y τ2 => match x with
  | .obj C fs => if C = cls ∧ sideY cls y = true then (F [.fr (.obj C fs), .fr y] τ2).nox.bind fun d τ3 => match d with
      | .bl r => .ok (.bl (xor neg r)) τ3
      | _ => .no
    else .no
  | _ => .no
section
variable {W : Wp} {Wx : L2.St → XK} {ta tb : TE} {δa δb : DE}
theorem tyQ_of {cls : Str} {G H : Hp} {y : V} {d : DD} (s : Same G H) (r : Rp W.K W.cm G y d) (h : sideY cls d = true) : ∃ t, TyQ H y t ∧ (t = .ref (W.cm cls) ∨ t ∈ tysQ) := by
  cases r with
  | non => exact ⟨_, .non, .inr (by simp [tysQ])⟩
  | bl b => exact ⟨_, .bl b, .inr (by simp [tysQ])⟩
  | int b => exact ⟨_, .int b, .inr (by simp [tysQ])⟩
  | str b => exact ⟨_, .str b, .inr (by simp [tysQ])⟩
  | lst e _ => exact ⟨_, .lst (s _ _ e), .inr (by simp [tysQ])⟩
  | tup e _ => exact ⟨_, .tup (s _ _ e), .inr (by simp [tysQ])⟩
  | dic e _ => exact ⟨_, .dK (s _ _ e), .inr (by simp [tysQ])⟩
  | obj e _ => cases of_decide_eq_true h; exact ⟨_, .ins (s _ _ e), .inl rfl⟩
  | exc _ _ _ _ _ => cases h
  | raw _ => cases h
theorem dn_eqO {neg : Bool} {cls : Str} {C : Addr} {F : Fn} (hC : W.cm cls = C) (hnf : ∀ t ∈ tysQ, PySem.W.notFirst W.K C t = true) (ha : Dn W Wx ta δa) (hb : Dn W Wx tb δb) :
    Dn W Wx (tOp (rEqO W.K C neg (spP W 2 F)) ta tb) (dEqO neg cls F δa δb) := fun tp G H σ ρ τ Q E P =>
  ha _ _ _ _ _ _ _ E (P.bind fun a τ1 x G1 H1 e1 E1 r1 P1 => hb _ _ _ _ _ _ _ E1 (P1.bind fun b τ2 y G2 H2 e2 E2 r2 P2 => by
    subst hC
    split at P2
    · rename_i C fs
      by_cases h : C = cls ∧ sideY cls b = true
      · rw [if_pos h] at P2
        obtain ⟨rfl, hy⟩ := h
        have r1' := r1.mono e2.g
        have r1'' := r1'
        cases r1' with | obj hg rf =>
        obtain ⟨t, ty, ht⟩ := tyQ_of E2.g r2 hy
        refine ⟨_, _, _, t, rfl, E2.g _ _ hg, ty, ?_, rfl, tp, G2, _, τ2, E2.g, .cons (show ArgR W tp G2 _ (.fr _) from r1'') (.cons (show ArgR W tp G2 _ (.fr _) from r2) .nil), E2.t, ?_⟩
        · rcases ht with rfl | ht
          · unfold PySem.W.notFirst
            simp
          · exact hnf t ht
        · revert P2
          cases F [.fr (.obj C fs), .fr b] τ2 with
          | ok d τ' =>
            intro P2 v G' H' e s t r
            cases d <;> first | exact P2.elim | skip
            rename_i z
            simp only [R.nox_ok, R.bind_ok] at P2
            exact ⟨z, r.bl_of, P2 _ G' H' e (E2.ext e s t) (.bl _)⟩
          | ex x τ' => exact fun P1 => P1.elim
          | no => exact fun P1 => P1.elim
      · rw [if_neg h] at P2
        exact P2.elim
    · exact P2.elim))
/-- isinstance(x, cls) of things of all kinds -/
def gIsO (cls : Str) : DD → Option DD
  | .obj C _ => if C = cls then some (.bl true) else none
  | .exc _ _ => none
  | .raw _ => none
  | _ => some (.bl false)
theorem dn_isO {cls : Str} {C : Addr} (hC : W.cm cls = C) (hO : OwnC W.K C) (h1 : PySem.W.kitOne W.K (.ref C) (.ref C) = some true) (h2 : ∀ t ∈ tysQ, PySem.W.kitOne W.K t (.ref C) = some false) (ha : Dn W Wx ta δa) :
    Dn W Wx (tCB (rIsi W.K) (tCons ta (tCons (tC (.ref C)) tNil))) (dUn (gIsO cls) δa) := fun tp G H σ ρ τ Q E P =>
  ha _ _ _ _ _ _ _ E (P.bind fun a τ1 x G1 H1 e1 E1 r1 P1 => by
    obtain ⟨c, hc, P2⟩ := P1.of
    have key : ∀ {t : Value} {b : Bool}, TyX W.K H1 x t → PySem.W.kitOne W.K t (.ref C) = some b → c = .bl b → rIsi W.K [x, .ref C] H1 Q := fun {t b} ty kk e => by
      subst e
      exact ⟨x, .ref C, t, .ref C, b, rfl, .own _, ty, kk, P2 _ _ _ Ext.refl E1 (.bl _)⟩
    show rIsi W.K [x, .ref C] H1 Q
    have r2 := r1.mono E1.g
    cases r2 with
    | non => cases hc; exact key (.base .non) (h2 _ (by simp [tysQ])) rfl
    | bl b => cases hc; exact key (.base (.bl b)) (h2 _ (by simp [tysQ])) rfl
    | int b => cases hc; exact key (.base (.int b)) (h2 _ (by simp [tysQ])) rfl
    | str b => cases hc; exact key (.base (.str b)) (h2 _ (by simp [tysQ])) rfl
    | lst e _ => cases hc; exact key (.base (.lst e)) (h2 _ (by simp [tysQ])) rfl
    | tup e _ => cases hc; exact key (.base (.tup e)) (h2 _ (by simp [tysQ])) rfl
    | dic e _ => cases hc; exact key (.base (.dK e)) (h2 _ (by simp [tysQ])) rfl
    | @obj a' dx' C' xs' ds' e _ =>
      have hc : (if C' = cls then some (DD.bl true) else none) = some c := hc
      by_cases z : C' = cls
      · subst z
        subst hC
        rw [if_pos rfl] at hc
        cases hc
        exact key (.base (.ins e hO.cl hO.ha hO.hn hO.htk hO.hm)) h1 rfl
      · rw [if_neg z] at hc
        cases hc
    | exc _ _ _ _ _ => cases hc
    | raw _ => cases hc)
end
end Np

set_option Elab.async false
set_option linter.all false
set_option maxRecDepth 100000
set_option maxHeartbeats 4000000
namespace Np
open PySem PySem.Spec PyProof.Rows L2
/-! ### thing == object: the thing declines -/
section
open AutoSeq1 (wpAny_loadPart')
open MeetsSeq
variable {prog : Program} {w : World} {A : Around} {E : Value → Shared → Prop} {s : Shared} {K : PySem.W.Frag} {a C f : Addr} {ox : Obj} {od : Option Obj} {v : Value}
theorem rc_back {n id : String} {Q : Value → Shared → Prop} (hu : A.units < cLine) (Xk : K.In s.heap) (J : PySem.W.InstAt s.heap a ox C od) (hT : s.TypeIs v n) (hsub : PySem.W.subIn K (.ref C) (.type n) = some false) (S : Slot n "__eq__" id)
    (hc : ∀ Q' : Value → Shared → Prop, Q' .notImplemented s → wpAny (model prog w) A (call (.builtin id) [v, .ref a]) Q' E s)
    (hs : PySem.W.findIn K (.ref C) "__eq__" = some (some (.ref f))) (hf : PySem.W.isFn K (.ref f) = true)
    (h : wpAny (model prog w) A (call (.ref f) [.ref a, v]) (PySem.W.CmpBack Q) E s) : wpAny (model prog w) A (richCompare .Eq v (.ref a)) Q E s := by
  simp only [richCompare, PySem.cmpInfo_Eq, hT.oneThing_none]
  try with_reducible refine wpAny_holding ?_
  refine wpAny_bind (wpAny_cRoomFor_or (.inr hu) ?_)
  refine wpAny_bind (wpAny_typeOf hT (wpAny_bind (J.type.here ?_)))
  simp only [show (Value.type n != Value.ref C) = true from rfl, if_true]
  refine wpAny_bind ((PySem.W.looks_subIn Xk hsub).here ?_)
  simp only [Bool.false_eq_true, if_false, Bool.not_false, if_true]
  refine wpAny_bind (m := tryCompare v _ (.ref a)) (wpAny_tryCompare_declines hT S (hc _ ⟨rfl, ?_⟩))
  have one : wpAny (model prog w) A (tryCompare (.ref a) "__eq__" v) (fun r s' => ∃ v, r = some v ∧ Q v s') E s := by
    unfold tryCompare
    refine wpAny_bind (PySem.W.ifBound_K Xk J hs hf (wpAny_mono h (fun v s' hv => ?_) fun _ _ e => e))
    cases v <;> first | exact hv.elim | exact wpAny_pure ⟨_, rfl, hv⟩
  refine wpAny_bind (wpAny_mono one (fun r s' z => ?_) fun _ _ e => e)
  obtain ⟨v, rfl, hq⟩ := z
  exact wpAny_pure hq
/-- x is no T -/
abbrev NoT (prog : Program) (w : World) (s : Shared) (a : Addr) (T : String) : Prop := PySem.W.Looks (model prog w) s.heap (isInstance (.ref a) (.type T)) false
theorem decl_list {l : Addr} {items : Array Value} {Q : Value → Shared → Prop} (hl : s.heap.IsList l items) (hn : NoT prog w s a "list") (h : Q .notImplemented s) : wpAny (model prog w) A (call (.builtin "list.__eq__") [.ref l, .ref a]) Q E s := by
  obtain ⟨⟨cls, dd, data, sl⟩, ho, hc, n, hd⟩ := id hl
  simp only at hc hd
  subst hc hd
  refine GQ.call_here F.slot_list_eq ⟨_, ho, rfl⟩ F.entry_list_eq (F.args_list_eq_2 _ _) ?_
  obtain ⟨hp, g, d, tk, os⟩ := s
  wp_walk using hn.here
  exact h
theorem decl_tuple {l : Addr} {items : Array Value} {Q : Value → Shared → Prop} (hl : s.heap.IsTuple l items) (hn : NoT prog w s a "tuple") (h : Q .notImplemented s) : wpAny (model prog w) A (call (.builtin "tuple.__eq__") [.ref l, .ref a]) Q E s := by
  obtain ⟨⟨cls, dd, data, sl⟩, ho, hc, n, hd⟩ := id hl
  simp only at hc hd
  subst hc hd
  refine GQ.call_here F.slot_tuple_eq ⟨_, ho, rfl⟩ F.entry_tuple_eq (F.args_tuple_eq_2 _ _) ?_
  obtain ⟨hp, g, d, tk, os⟩ := s
  wp_walk using hn.here
  exact h
theorem decl_none {Q : Value → Shared → Prop} (h : Q .notImplemented s) : wpAny (model prog w) A (call (.builtin "NoneType.__eq__") [.none, .ref a]) Q E s :=
  call_gives F.slot_NoneType_eq rfl F.entry_NoneType_eq (F.args_NoneType_eq_2 _ _) (SeqAt.NoneType___eq___none_ref_0 a) h
theorem decl_int {i : Int} {u : Tok} {Q : Value → Shared → Prop} {dx : Addr} (ho : s.heap.get? a = some (PySem.W.instObj C dx)) (h : Q .notImplemented s) : wpAny (model prog w) A (call (.builtin "int.__eq__") [.int i u, .ref a]) Q E s := by
  refine GQ.call_here F.slot_int_eq rfl F.entry_int_eq (F.args_int_eq_2 _ _) ?_
  obtain ⟨hp, g, d, tk, os⟩ := s
  wp_walk using wpAny_load ho
  exact h
theorem decl_str {i : Str} {u : Tok} {Q : Value → Shared → Prop} {dx : Addr} (ho : s.heap.get? a = some (PySem.W.instObj C dx)) (h : Q .notImplemented s) : wpAny (model prog w) A (call (.builtin "str.__eq__") [.str i u, .ref a]) Q E s := by
  refine GQ.call_here F.slot_str_eq rfl F.entry_str_eq (F.args_str_eq_2 _ _) ?_
  obtain ⟨hp, g, d, tk, os⟩ := s
  wp_walk using wpAny_load ho
  exact h
end
/-! ### == inside a list, by an own __eq__ -/
inductive TyN (H : Hp) : V → String → Prop
  | non : TyN H .non "NoneType"
  | int (i : Int) : TyN H (.int i) "int"
  | str (x : Str) : TyN H (.str x) "str"
  | lst {a : Addr} {xs : List V} : H a = some (.lst xs) → TyN H (.ref a) "list"
  | tup {a : Addr} {xs : List V} : H a = some (.tup xs) → TyN H (.ref a) "tuple"
def tysN : List String := ["NoneType", "int", "str", "list", "tuple"]
def BoolTo (X : Cx) (pins : List (Addr × Obj)) (σ : L2.St) (Q : Bool → Hp → Prop) : Bool → Shared → Prop := fun r s' => ∃ H', L2.Inv X pins σ H' s' ∧ Q r H'
section
variable {X : Cx} {pins : List (Addr × Obj)} {σ : L2.St} {H : Hp} {s : Shared} {C a b dx dy f : Addr} {fs gs : List (Str × V)} {fd : FuncData} {ps : List Str} {sp : Sp} {k : Nat} {A : Around} {Q : Bool → Hp → Prop} {E : Value → Shared → Prop} {y : V} {v : Value} {n : String}
theorem back_bool (F : FnG X.prog X.w X.K X.mg X.base CX0 k f fd ps sp) (hb : Binds X.K fd ps []) (hgd : A.guards = some []) (hr : Room k A) (hfr : A.frames = X.A.frames) (I : L2.Inv X pins σ H s) {vs : List V} {us : List Value} (r : Vals vs us)
    (hsp : sp vs H (fun v H' => ∃ b : Bool, v = .bl b ∧ Q b H') E0) {R : Value → Shared → Prop} (h : ∀ b s', BoolTo X pins σ Q b s' → R (.bool b) s') : wpAny (model X.prog X.w) A (call (.ref f) us) R E s := by
  refine run_sp F hb hgd hr hfr I r hsp fun u s' hq => ?_
  obtain ⟨z, H', I', rz, b, ez, q⟩ := hq
  subst ez
  cases (show u = Value.bool b from rz)
  exact h b s' ⟨H', I', q⟩
theorem rc_th (F : FnG X.prog X.w X.K X.mg X.base CX0 k f fd ps sp) (hb : Binds X.K fd ps []) (hs : PySem.W.findIn X.K (.ref C) "__eq__" = some (some (.ref f))) (hf : PySem.W.isFn X.K (.ref f) = true) (no : ∀ T ∈ tysN, PySem.W.subIn X.K (.ref C) (.type T) = some false)
    (hgd : A.guards = some []) (hr : Room k A) (hfr : A.frames = X.A.frames) (I : L2.Inv X pins σ H s) (ha : H a = some (.ins C dx fs)) (ry : RelV y v) (ty : TyN H y n) (hsp : sp [.ref a, y] H (fun v H' => ∃ b : Bool, v = .bl b ∧ Q b H') E0) :
    wpAny (model X.prog X.w) A (richCompare .Eq v (.ref a)) (fun u s' => ∃ b, u = .bool b ∧ BoolTo X pins σ Q b s') E s := by
  obtain ⟨mA, J, _⟩ := ins_get I.hok ha
  obtain ⟨od, J, _⟩ := J.look
  obtain ⟨_, _, _, ho, _⟩ := (show ObjOk X.prog X.w H s.heap a (.ins C dx fs) from I.hok a _ ha)
  have Xk := I.kIn
  have fin : wpAny (model X.prog X.w) A (call (.ref f) [.ref a, v]) (PySem.W.CmpBack (fun u s' => ∃ b, u = .bool b ∧ BoolTo X pins σ Q b s')) E s :=
    back_bool F hb hgd hr hfr I (show Vals [V.ref a, y] [Value.ref a, v] from .cons rfl (.cons ry .nil)) hsp fun b s' q => ⟨b, rfl, q⟩
  cases ty with
  | non =>
    cases (show v = Value.none from ry)
    exact rc_back hr.units0 Xk J rfl (no _ (by simp [tysN])) PySem.F.slot_NoneType_eq (fun Q' q => decl_none q) hs hf fin
  | int i =>
    obtain ⟨t, q⟩ := (show ∃ t, v = Value.int i t from ry)
    cases q
    exact rc_back hr.units0 Xk J rfl (no _ (by simp [tysN])) PySem.F.slot_int_eq (fun Q' q => decl_int ho q) hs hf fin
  | str i =>
    obtain ⟨t, q⟩ := (show ∃ t, v = Value.str i t from ry)
    cases q
    exact rc_back hr.units0 Xk J rfl (no _ (by simp [tysN])) PySem.F.slot_str_eq (fun Q' q => decl_str ho q) hs hf fin
  | @lst l xs e =>
    cases (show v = Value.ref l from ry)
    obtain ⟨_, its, m, _, h1⟩ := (show ObjOk X.prog X.w H s.heap l (.lst xs) from I.hok l _ e)
    exact rc_back hr.units0 Xk J ⟨_, h1, rfl⟩ (no _ (by simp [tysN])) PySem.F.slot_list_eq (fun Q' q => decl_list ⟨_, h1, rfl, _, rfl⟩ (J.type.andThen (PySem.W.looks_subIn Xk (no _ (by simp [tysN])))) q) hs hf fin
  | @tup l xs e =>
    cases (show v = Value.ref l from ry)
    obtain ⟨_, its, _, h1⟩ := (show ObjOk X.prog X.w H s.heap l (.tup xs) from I.hok l _ e)
    obtain ⟨o, e1, e2, _⟩ := id h1
    exact rc_back hr.units0 Xk J ⟨o, e1, e2⟩ (no _ (by simp [tysN])) PySem.F.slot_tuple_eq (fun Q' q => decl_tuple h1 (J.type.andThen (PySem.W.looks_subIn Xk (no _ (by simp [tysN])))) q) hs hf fin
theorem rc_ob (F : FnG X.prog X.w X.K X.mg X.base CX0 k f fd ps sp) (hb : Binds X.K fd ps []) (hs : PySem.W.findIn X.K (.ref C) "__eq__" = some (some (.ref f))) (hf : PySem.W.isFn X.K (.ref f) = true)
    (hgd : A.guards = some []) (hr : Room k A) (hfr : A.frames = X.A.frames) (I : L2.Inv X pins σ H s) (ha : H a = some (.ins C dx fs)) (hb' : H b = some (.ins C dy gs)) (hsp : sp [.ref b, .ref a] H (fun v H' => ∃ b : Bool, v = .bl b ∧ Q b H') E0) :
    wpAny (model X.prog X.w) A (richCompare .Eq (.ref b) (.ref a)) (fun u s' => ∃ b, u = .bool b ∧ BoolTo X pins σ Q b s') E s := by
  obtain ⟨mA, J, _⟩ := ins_get I.hok ha
  obtain ⟨od, J, _⟩ := J.look
  obtain ⟨mB, J', _⟩ := ins_get I.hok hb'
  obtain ⟨od', J', _⟩ := J'.look
  obtain ⟨m, hF⟩ := I.fr
  refine PySem.W.cmp_K (op := .Eq) (tb := .ref C) hr.units0 hF I.ok.mod.kin J' J.type (by simp [PySem.W.notFirst]) hs hf ?_
  exact back_bool F hb hgd hr hfr I (show Vals [V.ref b, V.ref a] [Value.ref b, Value.ref a] from .cons rfl (.cons rfl .nil)) hsp fun b s' q => ⟨b, rfl, q⟩
def rEq1 (C : Addr) (sp : Sp) (y x : V) (H : Hp) (Q : Bool → Hp → Prop) : Prop := ∃ (a dx : Addr) (fs : List (Str × V)), x = .ref a ∧ H a = some (.ins C dx fs) ∧
  ((∃ (b dy : Addr) (gs : List (Str × V)), y = .ref b ∧ H b = some (.ins C dy gs) ∧ (b = a → Q true H) ∧ (b ≠ a → sp [y, x] H (fun v H' => ∃ r : Bool, v = .bl r ∧ Q r H') E0)) ∨ ∃ n, TyN H y n ∧ sp [x, y] H (fun v H' => ∃ r : Bool, v = .bl r ∧ Q r H') E0)
theorem eqb_1 {x : V} {u : Value} (F : FnG X.prog X.w X.K X.mg X.base CX0 k f fd ps sp) (hb : Binds X.K fd ps []) (hs : PySem.W.findIn X.K (.ref C) "__eq__" = some (some (.ref f))) (hf : PySem.W.isFn X.K (.ref f) = true) (no : ∀ T ∈ tysN, PySem.W.subIn X.K (.ref C) (.type T) = some false)
    (hgd : A.guards = some []) (hr : Room k A) (hfr : A.frames = X.A.frames) (I : L2.Inv X pins σ H s) (rx : RelV x u) (ry : RelV y v) (h : rEq1 C sp y x H Q) : wpAny (model X.prog X.w) A (eqBool v u) (BoolTo X pins σ Q) E s := by
  obtain ⟨a, dx, fs, rfl, ha, h⟩ := h
  cases (show u = Value.ref a from rx)
  rcases h with ⟨b, dy, gs, rfl, hb', h1, h2⟩ | ⟨n, ty, hsp⟩
  · cases (show v = Value.ref b from ry)
    by_cases hab : b = a
    · subst hab
      exact SeqAt.EqAt.same (A := A) (s := s) (.ref b) X.prog X.w E _ ⟨H, I, h1 rfl⟩
    · exact GQ.eqBool_refG hab (rc_ob F hb hs hf hgd hr hfr I ha hb' (h2 hab))
  · have rc := rc_th (E := E) F hb hs hf no hgd hr hfr I ha ry ty hsp
    have plain : (v == Value.ref a) = false → wpAny (model X.prog X.w) A (eqBool v (.ref a)) (BoolTo X pins σ Q) E s := fun hne => by
      cases ty with
      | lst e =>
        rename_i l xs
        cases (show v = Value.ref l from ry)
        exact GQ.eqBool_refG (fun z => by subst z; rw [ha] at e; cases e) rc
      | tup e =>
        rename_i l xs
        cases (show v = Value.ref l from ry)
        exact GQ.eqBool_refG (fun z => by subst z; rw [ha] at e; cases e) rc
      | non =>
        cases (show v = Value.none from ry)
        unfold eqBool
        refine wpAny_holding ?_
        refine wpAny_ite_split (fun hab => absurd (eq_of_beq hab) nofun) (fun _ => ?_)
        refine wpAny_bind (wpAny_mono rc (fun r s' hv => ?_) fun _ _ z => z)
        obtain ⟨r, rfl, q⟩ := hv
        exact wpAny_truthy_bool q
      | int i =>
        obtain ⟨t, q⟩ := (show ∃ t, v = Value.int i t from ry)
        cases q
        unfold eqBool
        refine wpAny_holding ?_
        refine wpAny_ite_split (fun hab => absurd (eq_of_beq hab) nofun) (fun _ => ?_)
        refine wpAny_bind (wpAny_mono rc (fun r s' hv => ?_) fun _ _ z => z)
        obtain ⟨r, rfl, q⟩ := hv
        exact wpAny_truthy_bool q
      | str i =>
        obtain ⟨t, q⟩ := (show ∃ t, v = Value.str i t from ry)
        cases q
        unfold eqBool
        refine wpAny_holding ?_
        refine wpAny_ite_split (fun hab => absurd (eq_of_beq hab) nofun) (fun _ => ?_)
        refine wpAny_bind (wpAny_mono rc (fun r s' hv => ?_) fun _ _ z => z)
        obtain ⟨r, rfl, q⟩ := hv
        exact wpAny_truthy_bool q
    refine plain ?_
    cases ty with
    | non => cases (show v = Value.none from ry); rfl
    | int i => obtain ⟨t, q⟩ := (show ∃ t, v = Value.int i t from ry); cases q; rfl
    | str i => obtain ⟨t, q⟩ := (show ∃ t, v = Value.str i t from ry); cases q; rfl
    | lst e =>
      rename_i l xs
      cases (show v = Value.ref l from ry)
      exact beq_false_of_ne (fun z => by cases z; rw [ha] at e; cases e)
    | tup e =>
      rename_i l xs
      cases (show v = Value.ref l from ry)
      exact beq_false_of_ne (fun z => by cases z; rw [ha] at e; cases e)
end
end Np

set_option Elab.async false
set_option linter.all false
set_option maxRecDepth 100000
set_option maxHeartbeats 4000000
namespace Np
open PySem PySem.Spec PyProof.Rows L2
/-! ### object in list -/
/-- the items from some place on -/
def inL (C : Addr) (sp : Sp) (l : Addr) (all : List V) (x : V) : List V → Hp → (Bool → Hp → Prop) → Prop
  | [], H, Q => Q false H
  | y :: ys, H, Q => rEq1 C sp y x H fun r H' => H' l = some (.lst all) ∧ (r = true → Q true H') ∧ (r = false → inL C sp l all x ys H' Q)
def rInO (C : Addr) (neg : Bool) (sp : Sp) : R2 := fun x y H Q => ∃ (l : Addr) (all : List V), y = .ref l ∧ H l = some (.lst all) ∧ inL C sp l all x all H fun b H' => Q (.bl (xor neg b)) H'
section
open AutoSeq1 (wpAny_loadPart')
open MeetsSeq MeetsSeq2 MeetsSeq3 SeqRoads2
variable {X : Cx} {pins : List (Addr × Obj)} {σ : L2.St} {C f l : Addr} {fd : FuncData} {ps : List Str} {sp : Sp} {k : Nat} {A : Around} {E : Value → Shared → Prop} {all : List V} {x : V} {u : Value} {R : Result → Shared → Prop}
theorem in_loopO (F : FnG X.prog X.w X.K X.mg X.base CX0 k f fd ps sp) (hb : Binds X.K fd ps []) (hs : PySem.W.findIn X.K (.ref C) "__eq__" = some (some (.ref f))) (hf : PySem.W.isFn X.K (.ref f) = true) (no : ∀ T ∈ tysN, PySem.W.subIn X.K (.ref C) (.type T) = some false)
    (hgd : A.guards = some []) (hr : Room k A.in1) (hfr : A.frames = X.A.frames) (rx : RelV x u) {Q : Bool → Hp → Prop} (hR : ∀ b s', BoolTo X pins σ Q b s' → R (.ok (.ret (.bool b))) s') (m : Nat) :
    ∀ i : Nat, all.length - i = m → i ≤ all.length → ∀ (H : Hp) (s : Shared), L2.Inv X pins σ H s → H l = some (.lst all) → inL C sp l all x (all.drop i) H Q →
      wpAny (model X.prog X.w) A.in1 (Builtin.«list.__contains__.loop» ⟨[.ref l, u, rawInt i], []⟩) (GQ.FinOf X.prog X.w A R) (fun e s' => R (.error e) s') s := by
  induction m with
  | zero =>
    intro i hk hi H s I hl h
    obtain ⟨_, its, n, rv, e1⟩ := (show ObjOk X.prog X.w H s.heap l (.lst all) from I.hok l _ hl)
    have hlen := rv.length
    rw [List.drop_of_length_le (by omega)] at h
    have hq := hR false s ⟨H, I, h⟩
    obtain ⟨hp, g, d, tk, os⟩ := s
    wp_walk using wpAny_loadPart' e1
    have hi1 : its.toArray[((i : Nat) : Int).toNat]? = none := by simp; omega
    rw [hi1]
    wp_walk
    exact hq
  | succ m ih =>
    intro i hk hi H s I hl h
    obtain ⟨_, its, n, rv, e1⟩ := (show ObjOk X.prog X.w H s.heap l (.lst all) from I.hok l _ hl)
    have hlen := rv.length
    have hlt : i < all.length := by omega
    rw [List.drop_eq_getElem_cons hlt] at h
    obtain ⟨v, hv, ry⟩ := rv.get (List.getElem?_eq_getElem hlt)
    have step := eqb_1 (A := A.in1) (E := fun e s' => R (.error e) s') F hb hs hf no hgd hr hfr I rx ry h
    have hc : ((i : Int) + 1) = ((i + 1 : Nat) : Int) := by push_cast; rfl
    obtain ⟨hp, g, d, tk, os⟩ := s
    wp_walk using wpAny_loadPart' e1
    have hi1 : its.toArray[((i : Nat) : Int).toNat]? = some v := by simpa using hv
    rw [hi1]
    refine wpAny_bind (wpAny_mono step (fun r s2 h2 => ?_) fun _ _ z => z)
    obtain ⟨H2, I2, hl2, q1, q2⟩ := h2
    cases r with
    | true =>
      have hq := hR true s2 ⟨H2, I2, q1 rfl⟩
      obtain ⟨hp2, g2, d2, tk2, os2⟩ := s2
      wp_walk
      exact hq
    | false =>
      have hrec := ih (i + 1) (by omega) (by omega) H2 s2 I2 hl2 (q2 rfl)
      obtain ⟨hp2, g2, d2, tk2, os2⟩ := s2
      wp_walk
      rw [hc]
      exact ⟨plainId_quiet plain_contains_loop _, codeAny_builtin entry_contains_loop (by
        rw [Around.under_plainId plain_contains_loop _]
        exact hrec)⟩
theorem call_contO (F : FnG X.prog X.w X.K X.mg X.base CX0 k f fd ps sp) (hb : Binds X.K fd ps []) (hs : PySem.W.findIn X.K (.ref C) "__eq__" = some (some (.ref f))) (hf : PySem.W.isFn X.K (.ref f) = true) (no : ∀ T ∈ tysN, PySem.W.subIn X.K (.ref C) (.type T) = some false)
    (hgd : A.guards = some []) (hr : Room k A.in1) (hfr : A.frames = X.A.frames) (rx : RelV x u) {Q : Bool → Hp → Prop} {H : Hp} {s : Shared} (I : L2.Inv X pins σ H s) (hl : H l = some (.lst all)) (h : inL C sp l all x all H Q) :
    wpAny (model X.prog X.w) A (call (.builtin "list.__contains__") [.ref l, u]) (fun v s' => ∃ b, v = .bool b ∧ BoolTo X pins σ Q b s') E s := by
  obtain ⟨_, its, n, rv, e1⟩ := (show ObjOk X.prog X.w H s.heap l (.lst all) from I.hok l _ hl)
  refine GQ.call_here PySem.F.slot_list_contains ⟨_, e1, rfl⟩ PySem.F.entry_list_contains (PySem.F.args_list_contains_2 _ _) ?_
  have hrec := in_loopO (A := A) (R := wants (fun v s' => ∃ b, v = .bool b ∧ BoolTo X pins σ Q b s') E) F hb hs hf no hgd hr hfr rx (fun b s' q => ⟨b, rfl, q⟩) all.length 0 rfl (Nat.zero_le _) H s I hl h
  obtain ⟨hp, g, d, tk, os⟩ := s
  wp_walk using wpAny_loadPart' e1
  exact ⟨plainId_quiet plain_contains_loop _, codeAny_builtin entry_contains_loop (by
    rw [Around.under_plainId plain_contains_loop _]
    exact hrec)⟩
end
section
variable {X : Cx} {C : Addr} {ps : List Str} {sp : Sp} {k : Nat}
theorem op_inO (h : SpC X.prog X.w X.K X.mg X.base k C "__eq__" ps sp) (no : ∀ T ∈ tysN, PySem.W.subIn X.K (.ref C) (.type T) = some false) (hgd : X.A.guards = some []) (hr : Room (k + 1) X.A) : OpR X (compareOp .In) (rInO C false sp) := by
  obtain ⟨f, fd, F, hb, hs, hf⟩ := h
  intro pins s σ H x y u v Q I rx ry hq
  obtain ⟨l, all, rfl, hl, hin⟩ := hq
  cases (show v = Value.ref l from ry)
  obtain ⟨_, its, n, rv, e1⟩ := (show ObjOk X.prog X.w H s.heap l (.lst all) from I.hok l _ hl)
  show wpAny (model X.prog X.w) X.A (do return Value.bool (← contains (.ref l) u)) (EP X pins σ Q) X.xe s
  refine wpAny_bind (wpAny_contains_slot ⟨_, e1, rfl⟩ PySem.F.slot_list_contains (wpAny_mono (call_contO F hb hs hf no hgd hr.in1 rfl rx I hl hin) (fun v s' hv => ?_) fun _ _ e => e))
  obtain ⟨b, rfl, H', I', q⟩ := hv
  refine wpAny_truthy_bool (wpAny_pure ⟨.bl b, H', I', rfl, ?_⟩)
  rwa [Bool.false_xor] at q
theorem op_notInO (h : SpC X.prog X.w X.K X.mg X.base k C "__eq__" ps sp) (no : ∀ T ∈ tysN, PySem.W.subIn X.K (.ref C) (.type T) = some false) (hgd : X.A.guards = some []) (hr : Room (k + 1) X.A) : OpR X (compareOp .NotIn) (rInO C true sp) := by
  obtain ⟨f, fd, F, hb, hs, hf⟩ := h
  intro pins s σ H x y u v Q I rx ry hq
  obtain ⟨l, all, rfl, hl, hin⟩ := hq
  cases (show v = Value.ref l from ry)
  obtain ⟨_, its, n, rv, e1⟩ := (show ObjOk X.prog X.w H s.heap l (.lst all) from I.hok l _ hl)
  show wpAny (model X.prog X.w) X.A (do return Value.bool (!(← contains (.ref l) u))) (EP X pins σ Q) X.xe s
  refine wpAny_bind (wpAny_contains_slot ⟨_, e1, rfl⟩ PySem.F.slot_list_contains (wpAny_mono (call_contO F hb hs hf no hgd hr.in1 rfl rx I hl hin) (fun v s' hv => ?_) fun _ _ e => e))
  obtain ⟨b, rfl, H', I', q⟩ := hv
  refine wpAny_truthy_bool (wpAny_pure ⟨.bl (!b), H', I', rfl, ?_⟩)
  rwa [Bool.true_xor] at q
/-- thing == object -/
def rEqR (C : Addr) (sp : Sp) : R2 := fun y x H Q => ∃ (a dx : Addr) (fs : List (Str × V)) (n : String), x = .ref a ∧ H a = some (.ins C dx fs) ∧ TyN H y n ∧ sp [x, y] H (fun v H' => ∃ b : Bool, v = .bl b ∧ Q (.bl b) H') E0
theorem op_eqR (h : SpC X.prog X.w X.K X.mg X.base k C "__eq__" ps sp) (no : ∀ T ∈ tysN, PySem.W.subIn X.K (.ref C) (.type T) = some false) (hgd : X.A.guards = some []) (hr : Room k X.A) : OpR X (compareOp .Eq) (rEqR C sp) := by
  obtain ⟨f, fd, F, hb, hs, hf⟩ := h
  intro pins s σ H y x v u Q I ry rx hq
  obtain ⟨a, dx, fs, n, rfl, ha, ty, hsp⟩ := hq
  cases (show u = Value.ref a from rx)
  show wpAny (model X.prog X.w) X.A (richCompare .Eq v (.ref a)) (EP X pins σ Q) X.xe s
  refine wpAny_mono (rc_th (Q := fun b H' => Q (.bl b) H') F hb hs hf no hgd hr rfl I ha ry ty hsp) (fun u s' hv => ?_) fun _ _ z => z
  obtain ⟨b, rfl, H', I', q⟩ := hv
  exact ⟨.bl b, H', I', rfl, q⟩
end
/-! ### the denotations -/
def canSame (d x : DD) : Prop := ∃ (K : PySem.W.Frag) (cm : CM) (G : Hp) (v : V), Rp K cm G v d ∧ Rp K cm G v x
def toB (r : R DD) : R Bool := r.nox.bind fun d τ => match d with
  | .bl b => .ok b τ
  | _ => .no
/-- a thing that declines == with an object -/
def thing : DD → Bool
  | .non => true
  | .int _ => true
  | .str _ => true
  | .lst _ => true
  | .tup _ => true
  | _ => false
open Classical in
/-- item == x inside a list -/
noncomputable def eq1D (cls : Str) (F : Fn) (d x : DD) (τ : TS') : R Bool := match d with
  | .obj C fs => if C = cls then (toB (F [.fr (.obj C fs), .fr x] τ)).bind fun b τ' => if (canSame (.obj C fs) x → b = true ∧ τ' = τ) then .ok b τ' else .no
    else .no
  | d => if thing d = true then toB (F [.fr x, .fr d] τ) else .no
noncomputable def inD (cls : Str) (F : Fn) (x : DD) : List DD → TS' → R Bool
  | [], τ => .ok false τ
  | d :: ds, τ => (eq1D cls F d x τ).bind fun b τ' => if b = true then .ok true τ' else inD cls F x ds τ'
noncomputable def dInO (neg : Bool) (cls : Str) (F : Fn) (a b : DE) : DE := fun ρ τ => (a ρ τ).bind fun x τ1 => (b ρ τ1).bind fun y τ2 => match x, y with
  | .obj C fs, .lst ds => if C = cls then (inD cls F (.obj C fs) ds τ2).bind fun r τ3 => .ok (.bl (xor neg r)) τ3 else .no
  | _, _ => .no
def dEqR (cls : Str) (F : Fn) (a b : DE) : DE := fun ρ τ => (a ρ τ).bind fun y τ1 => (b ρ τ1).bind fun x τ2 => match x with
  | .obj C fs => if C = cls ∧ thing y = true then (toB (F [.fr (.obj C fs), .fr y] τ2)).bind fun r τ3 => .ok (.bl r) τ3 else .no
  | _ => .no
section
variable {W : Wp} {Wx : L2.St → XK} {ta tb : TE} {δa δb : DE} {tp : Option Addr} {G H : Hp} {σ : L2.St} {ρ : PEnv} {τ : TS'}
theorem tyN_thing {y : V} {d : DD} (s : Same G H) (r : Rp W.K W.cm G y d) (h : thing d = true) : ∃ n, TyN H y n := by
  cases r with
  | non => exact ⟨_, .non⟩
  | int i => exact ⟨_, .int i⟩
  | str i => exact ⟨_, .str i⟩
  | lst e _ => exact ⟨_, .lst (s _ _ e)⟩
  | tup e _ => exact ⟨_, .tup (s _ _ e)⟩
  | bl b => cases h
  | dic _ _ => cases h
  | obj _ _ => cases h
  | exc _ _ _ _ _ => cases h
  | raw _ => cases h
/-- a call of == by F -/
theorem spB {F : Fn} {vs : List V} {as : List PV} {Q : Bool → Hp → Prop} (hl : vs.length = 2) (E1 : EnvV W tp G H σ ρ τ) (ra : Paired (ArgR W tp G) vs as)
    (h : ∀ b τ', toB (F as τ) = .ok b τ' → ∀ G' H', Ext tp G H G' H' → EnvV W tp G' H' σ ρ τ' → Q b H') (hok : toB (F as τ) ≠ .no) (hex : ∀ x τ', toB (F as τ) ≠ .ex x τ') :
    spP W 2 F vs H (fun v H' => ∃ b : Bool, v = .bl b ∧ Q b H') E0 := by
  refine ⟨hl, tp, G, as, τ, E1.g, ra, E1.t, ?_⟩
  revert h hok hex
  unfold toB
  cases F as τ with
  | ok d τ' =>
    intro h hok hex v G' H' e s t r
    cases d <;> first | exact absurd rfl hok | skip
    rename_i b
    exact ⟨b, r.bl_of, h b τ' rfl G' H' e (E1.ext e s t)⟩
  | ex x τ' => exact fun h hok hex => absurd rfl hok
  | no => exact fun h hok hex => absurd rfl hok
theorem toB_ex {r : R DD} {x : Ex} {τ' : TS'} : toB r ≠ .ex x τ' := by
  unfold toB
  cases r with
  | ok d t => cases d <;> exact fun z => nomatch z
  | ex y t => exact fun z => nomatch z
  | no => exact fun z => nomatch z
theorem eq1_ok {cls : Str} {F : Fn} {d x : DD} {v u : V} {Q : Bool → Hp → Prop} {fs : List (Str × DD)} (hx : x = .obj cls fs) (E1 : EnvV W tp G H σ ρ τ) (rd : Rp W.K W.cm G v d) (rx : Rp W.K W.cm G u x)
    (h : Pg W Wx rT tp σ ρ G H Q (eq1D cls F d x τ)) : rEq1 (W.cm cls) (spP W 2 F) v u H Q := by
  subst hx
  have rx' := rx
  cases rx' with | @obj a dx _ xs _ hg rf =>
  refine ⟨a, dx, xs, rfl, E1.g _ _ hg, ?_⟩
  have arg : ∀ {z : V} {e : DD}, Rp W.K W.cm G z e → ArgR W tp G z (.fr e) := fun r => r
  by_cases ho : ∃ C gs, d = .obj C gs
  · obtain ⟨C, gs, rfl⟩ := ho
    unfold eq1D at h
    by_cases hC : C = cls
    · subst hC
      simp only [if_true] at h
      have rd' := rd
      cases rd' with | @obj b dy _ ys _ hg' rf' =>
      refine .inl ⟨b, dy, ys, rfl, E1.g _ _ hg', fun hab => ?_, fun _ => ?_⟩
      · subst hab
        have cs : canSame (.obj C gs) (.obj C fs) := ⟨W.K, W.cm, G, _, rd, rx⟩
        cases hq : toB (F [.fr (.obj C gs), .fr (.obj C fs)] τ) with
        | no => rw [hq] at h; exact h.elim
        | ex y t => exact absurd hq toB_ex
        | ok r t =>
          rw [hq] at h
          simp only [R.bind_ok] at h
          split at h
          · rename_i hc
            obtain ⟨rfl, rfl⟩ := hc cs
            exact h _ G H Ext.refl E1 rfl
          · exact h.elim
      · refine spB rfl E1 (.cons (arg rd) (.cons (arg rx) .nil)) (fun r t hq G' H' e E' => ?_) (fun hq => ?_) (fun _ _ => toB_ex)
        · rw [hq] at h
          simp only [R.bind_ok] at h
          split at h
          · exact h _ G' H' e E' rfl
          · exact h.elim
        · rw [hq] at h
          exact h.elim
    · simp only [if_neg hC] at h
      exact h.elim
  · have hd : eq1D cls F d (.obj cls fs) τ = if thing d = true then toB (F [.fr (.obj cls fs), .fr d] τ) else .no := by
      cases d <;> first | rfl | exact absurd ⟨_, _, rfl⟩ ho
    rw [hd] at h
    by_cases ht : thing d = true
    · rw [if_pos ht] at h
      obtain ⟨n, ty⟩ := tyN_thing E1.g rd ht
      refine .inr ⟨n, ty, spB rfl E1 (.cons (arg rx) (.cons (arg rd) .nil)) (fun r t hq G' H' e E' => ?_) (fun hq => ?_) (fun _ _ => toB_ex)⟩
      · rw [hq] at h
        exact h _ G' H' e E' rfl
      · rw [hq] at h
        exact h.elim
    · rw [if_neg ht] at h
      exact h.elim
theorem in_ok {cls : Str} {F : Fn} {l : Addr} {all : List V} {u : V} {fs : List (Str × DD)} {Q : Bool → Hp → Prop} : ∀ {ds : List DD} {vs : List V} {G H : Hp} {τ : TS'}, EnvV W tp G H σ ρ τ → G l = some (.lst all) → RpA W.K W.cm G vs ds → Rp W.K W.cm G u (.obj cls fs) →
    Pg W Wx rT tp σ ρ G H Q (inD cls F (.obj cls fs) ds τ) → inL (W.cm cls) (spP W 2 F) l all u vs H Q
  | [], _, G, H, τ, E, _, .nil, _, h => h false G H Ext.refl E rfl
  | d :: ds, _, G, H, τ, E, hl, .cons r rs, rx, h => by
    unfold inD at h
    refine eq1_ok (Wx := Wx) (Q := _) rfl E r rx ?_
    revert h
    cases eq1D cls F d (.obj cls fs) τ with
    | ok b τ1 =>
      intro h b' G1 H1 e1 E1 rb
      cases (show b' = b from rb)
      refine ⟨E1.g _ _ (e1.g _ _ hl), fun hb => ?_, fun hb => ?_⟩
      · subst hb
        simp only [R.bind_ok, if_true] at h
        exact h true G1 H1 e1 E1 rfl
      · subst hb
        simp only [R.bind_ok, Bool.false_eq_true, if_false] at h
        exact in_ok E1 (e1.g _ _ hl) (rs.mono e1.g) (rx.mono e1.g) (Pg.shift h e1)
    | ex x τ1 => exact fun h => h
    | no => exact fun h => h
theorem dn_inO {neg : Bool} {cls : Str} {C : Addr} {F : Fn} (hC : W.cm cls = C) (ha : Dn W Wx ta δa) (hb : Dn W Wx tb δb) : Dn W Wx (tOp (rInO C neg (spP W 2 F)) ta tb) (dInO neg cls F δa δb) := fun tp G H σ ρ τ Q E P =>
  ha _ _ _ _ _ _ _ E (P.bind fun a τ1 x G1 H1 e1 E1 r1 P1 => hb _ _ _ _ _ _ _ E1 (P1.bind fun b τ2 y G2 H2 e2 E2 r2 P2 => by
    subst hC
    split at P2
    · rename_i C fs ds
      by_cases h : C = cls
      · subst h
        rw [if_pos rfl] at P2
        cases r2 with | lst hg ra =>
        refine ⟨_, _, rfl, E2.g _ _ hg, in_ok (Wx := Wx) E2 hg ra (r1.mono e2.g) (P2.bind fun r τ3 b G3 H3 e3 E3 rb P3 => ?_)⟩
        cases (show b = r from rb)
        exact P3 _ G3 H3 Ext.refl E3 (.bl _)
      · rw [if_neg h] at P2
        exact P2.elim
    · exact P2.elim))
theorem dn_eqR {cls : Str} {C : Addr} {F : Fn} (hC : W.cm cls = C) (ha : Dn W Wx ta δa) (hb : Dn W Wx tb δb) : Dn W Wx (tOp (rEqR C (spP W 2 F)) ta tb) (dEqR cls F δa δb) := fun tp G H σ ρ τ Q E P =>
  ha _ _ _ _ _ _ _ E (P.bind fun a τ1 y G1 H1 e1 E1 r1 P1 => hb _ _ _ _ _ _ _ E1 (P1.bind fun b τ2 x G2 H2 e2 E2 r2 P2 => by
    subst hC
    split at P2
    · rename_i C fs
      by_cases h : C = cls ∧ thing a = true
      · rw [if_pos h] at P2
        obtain ⟨rfl, ht⟩ := h
        have r2' := r2
        cases r2' with | obj hg rf =>
        have r1' := r1.mono e2.g
        obtain ⟨n, ty⟩ := tyN_thing E2.g r1' ht
        have arg : ∀ {z : V} {e : DD}, Rp W.K W.cm G2 z e → ArgR W tp G2 z (.fr e) := fun r => r
        refine ⟨_, _, _, n, rfl, E2.g _ _ hg, ty, spB (Q := fun b H' => Q (.bl b) H') rfl E2 (.cons (arg r2) (.cons (arg r1') .nil)) (fun r t hq G' H' e E' => ?_) (fun hq => ?_) (fun _ _ => toB_ex)⟩
        · rw [hq] at P2
          exact P2 _ G' H' e E' (.bl _)
        · rw [hq] at P2
          exact P2.elim
      · rw [if_neg h] at P2
        exact P2.elim
    · exact P2.elim))
end
end Np

set_option Elab.async false
set_option linter.all false
set_option maxRecDepth 100000
set_option maxHeartbeats 4000000
namespace Np
open PySem PySem.Spec PyProof.Rows L2
/-! ### bool(x) by an own __len__ -/
theorem truthy_lenK {prog : Program} {w : World} {A : Around} {E : Value → Shared → Prop} {s : Shared} {K : PySem.W.Frag} {x C f : Addr} {ox : Obj} {od : Option Obj} {Q : Bool → Shared → Prop} (Xk : K.In s.heap) (I : PySem.W.InstAt s.heap x ox C od)
    (h0 : PySem.W.findIn K (.ref C) "__bool__" = some none) (hs : PySem.W.findIn K (.ref C) "__len__" = some (some (.ref f))) (hf : PySem.W.isFn K (.ref f) = true)
    (h : wpAny (model prog w) A.in1 (call (.ref f) [.ref x]) (PySem.W.LenBack (fun v s' => ∃ n t, v = .int n t ∧ Q (n != 0) s')) E s) : wpAny (model prog w) A (truthy (.ref x)) Q E s := by
  have key : wpAny (model prog w) A (runValue (.builtin "len" ⟨[.ref x], []⟩)) (fun v s' => ∃ n t, v = .int n t ∧ Q (n != 0) s') E s := by
    refine wpAny_runValue (codeAny_builtin entry_len ?_)
    rw [Around.under_plainId plain_len _]
    unfold Builtin.«len»
    refine wpAny_bind (m := oneArg "len" _) (wpAny_pure ?_)
    refine wpAny_bind (m := callSpecial? (.ref x) (Str.ofString "__len__")) (PySem.W.special_fn Xk I hs (beq_iff_eq.mp hf) (wpAny_mono h (fun r s' hr => ?_) fun _ _ y => y))
    cases r <;> first | exact hr.elim | skip
    rename_i n u
    obtain ⟨⟨h0, h1⟩, hq⟩ := hr
    refine wpAny_bind (wpAny_holding (wpAny_pure ?_))
    refine wpAny_bind (wpAny_letGo ?_)
    show wpAny _ _ (if n < 0 then _ else _) _ _ _
    rw [if_neg (by omega)]
    show wpAny _ _ (if n ≥ 2 ^ 63 then _ else _) _ _ _
    rw [if_neg (by omega)]
    exact wpAny_bind (wpAny_mkInt (wpAny_pure hq))
  unfold truthy
  refine wpAny_bind (m := callSpecial? (.ref x) (Str.ofString "__bool__")) (wpAny_bind (wpAny_bind (I.type.here ((PySem.W.looks_findIn Xk h0).here (wpAny_pure ?_)))))
  refine wpAny_bind (wpAny_bind (I.type.here ((PySem.W.looks_findIn Xk hs).here ?_)))
  refine wpAny_bind (wpAny_mono key (fun r s' hv => ?_) fun _ _ z => z)
  obtain ⟨n, t, rfl, q⟩ := hv
  exact wpAny_pure q
theorem bool_call {prog : Program} {w : World} {A : Around} {E : Value → Shared → Prop} {s : Shared} {x : Addr} {Q : Value → Shared → Prop}
    (htr : ∀ R : Bool → Shared → Prop, (∀ b s', Q (.bool b) s' → R b s') → wpAny (model prog w) A.in1.in1 (truthy (.ref x)) R E s) : wpAny (model prog w) A (call (.type "bool") [.ref x]) Q E s := by
  have ft := F.called_bool
  obtain ⟨c, tl, hmro⟩ := ft.mro
  have hmade := ft.made
  have hsub := ft.sub
  refine wpAny_call (codeAny_of_tree ?_)
  show wpAny _ _ (callAny (.type "bool") _) _ _ _
  refine wpAny_pure ⟨Code.quiet_builtin _ (by decide +kernel), codeAny_builtin F.entry_type_call ?_⟩
  rw [Around.under_plain (weight_type_call_type "bool" [.ref x] []) (units_type_call_type "bool" [.ref x] [])]
  have h1 := ft.notType
  have h2 := ft.canCreate
  have hct := F.typeCall_bool_1 (.ref x)
  repeat (any_goals (first | assumption | wp_step))
  refine codeAny_mono (R := wants (fun obj s₁ => s₁.TypeIs obj "bool" ∧ Q obj s₁) E) (codeAny_call_builtin ft.plain F.entry_bool_new (wpAny_of_eq (F.newCall_bool_1 (.ref x)) ?_)) fun r s₁ hr => ?_
  · have f1 := F.conv_sub_bool
    repeat (any_goals (first | assumption | (with_reducible refine htr _ (fun b s' q => ?_)) | wp_step))
    all_goals first | exact ⟨rfl, q⟩ | exact ⟨_, rfl, rfl, q⟩ | skip
  · cases r with
    | error e => exact hr
    | ok fl =>
      cases fl with
      | ret obj =>
        obtain ⟨hT, hQ⟩ : s₁.TypeIs obj "bool" ∧ Q obj s₁ := hr
        have hok := F.args_object_init_2 obj (.ref x)
        have hli := ft.init.lookup
        have hbi := ft.init.bind obj
        repeat (any_goals (first | assumption | wp_step))
        have gi := object_init_meets (self := obj) (rest := [.ref x]) ft.init.lookup ft.made (by decide)
        refine codeAny_mono (R := wants (fun r s₂ => r = .none ∧ Q obj s₂) E) (codeAny_call_builtin ft.init.plain F.entry_object_init (ft.init.check _ _ _ _ _ _ _ _ hT hok (gi prog w A.in1 _ s₁ ⟨hT, rfl, hQ⟩))) fun r₂ s₂ hr₂ => ?_
        cases r₂ with
        | error e => exact hr₂
        | ok fl₂ =>
          cases fl₂ with
          | ret r =>
            obtain ⟨rfl, hq⟩ := hr₂
            repeat (any_goals (first | assumption | wp_step))
          | _ => exact hr₂.elim
      | _ => exact hr.elim
def rBoolO (C : Addr) (sp : Sp) : List V → Hp → VK → Prop := fun xs H Q => ∃ (a dx : Addr) (fs : List (Str × V)), xs = [.ref a] ∧ H a = some (.ins C dx fs) ∧ sp [.ref a] H (fun v H' => ∃ n : Int, v = .int n ∧ 0 ≤ n ∧ n < 2 ^ 63 ∧ Q (.bl (n != 0)) H') E0
theorem cr_boolO {X : Cx} {C : Addr} {ps : List Str} {sp : Sp} {k : Nat} (h : SpC X.prog X.w X.K X.mg X.base k C "__len__" ps sp) (h0 : PySem.W.findIn X.K (.ref C) "__bool__" = some none) (hgd : X.A.guards = some []) (hr : Room (k + 3) X.A) : CallR X (.type "bool") (rBoolO C sp) := by
  obtain ⟨f, fd, F, hb, hs, hf⟩ := h
  intro pins s σ H xs us Q I r h
  obtain ⟨a, dx, fs, rfl, ha, hsp⟩ := h
  cases r with | cons r rr =>
  cases rr
  cases r
  obtain ⟨mA, J, _⟩ := ins_get I.hok ha
  obtain ⟨od, J, _⟩ := J.look
  refine bool_call fun R hR => truthy_lenK I.kIn J h0 hs hf ?_
  refine run_sp F hb hgd hr.in1.in1.in1 rfl I (show Vals [V.ref a] [Value.ref a] from .cons rfl .nil) hsp fun u s' hq => ?_
  obtain ⟨z, H', I', rz, n, ez, n0, n1, q⟩ := hq
  subst ez
  obtain ⟨t, rfl⟩ := rz
  exact ⟨⟨n0, n1⟩, n, _, rfl, hR _ _ ⟨.bl (n != 0), H', I'.tok _, rfl, q⟩⟩
section
variable {W : Wp} {Wx : L2.St → XK} {ta : TA} {δa : DA}
def dBoolO (cls : Str) (F : Fn) (a : DA) : DE := fun ρ τ => (a ρ τ).bind fun xs τ1 => match xs with
  | [.obj C fs] => if C = cls then (F [.fr (.obj C fs)] τ1).nox.bind fun d τ2 => match d with
      | .int n => if 0 ≤ n ∧ n < 2 ^ 63 then .ok (.bl (n != 0)) τ2 else .no
      | _ => .no
    else .no
  | _ => .no
theorem dn_boolO {cls : Str} {C : Addr} {F : Fn} (hC : W.cm cls = C) (ha : DnA W Wx ta δa) : Dn W Wx (tCB (rBoolO C (spP W 1 F)) ta) (dBoolO cls F δa) := fun tp G H σ ρ τ Q E P =>
  ha _ _ _ _ _ _ _ E (P.bind fun as τ1 vs G1 H1 e1 E1 r1 P1 => by
    subst hC
    split at P1
    · rename_i C fs
      by_cases h : C = cls
      · subst h
        rw [if_pos rfl] at P1
        cases r1 with | cons r rs =>
        cases rs
        cases r with | obj hg rf =>
        refine ⟨_, _, _, rfl, E1.g _ _ hg, rfl, tp, G1, _, τ1, E1.g, .cons (show ArgR W tp G1 _ (.fr _) from Rp.obj hg rf) .nil, E1.t, ?_⟩
        revert P1
        cases F [.fr (.obj C fs)] τ1 with
        | ok d τ' =>
          intro P1 v G' H' e s t r
          cases d <;> first | exact P1.elim | skip
          rename_i n
          simp only [R.nox_ok, R.bind_ok] at P1
          by_cases hn : 0 ≤ n ∧ n < 2 ^ 63
          · rw [if_pos hn] at P1
            exact ⟨n, r.int_of, hn.1, hn.2, P1 _ G' H' e (E1.ext e s t) (.bl _)⟩
          · rw [if_neg hn] at P1
            exact P1.elim
        | ex x τ' => exact fun P1 => P1.elim
        | no => exact fun P1 => P1.elim
      · rw [if_neg h] at P1
        exact P1.elim
    · exact P1.elim)
end
end Np

set_option Elab.async false
set_option linter.all false
set_option maxRecDepth 100000
set_option maxHeartbeats 4000000
namespace Np
open PySem PySem.Spec PyProof.Rows L2
/-! ### methods that tell a new list -/
def dMethON (k : Nat) (cls m : Str) (F : FnO) (a : DE) (r : DPs) : PEnv → TS' → R OC := fun ρ τ => (a ρ τ).bind fun x τ1 => match x with
  | .obj C fs => if C = cls ∧ fs.lookup m = none then (r ρ τ1).bind fun as τ2 => if as.length + 1 = k then (F (.fr (.obj C fs) :: as) τ2).nox else .no
    else .no
  | _ => .no
section
variable {W : Wp} {Wx : L2.St → XK} {ta te : TE} {tr : TA} {δa δe : DE} {δr : DPs} {φ : PEnv → TS' → R OC}
theorem df_methN {k : Nat} {cls m : Str} {C : Addr} {F : FnO} (hC : W.cm cls = C) (ha : Dn W Wx ta δa) (hr : DnPs W Wx tr δr) : DnF W Wx (tMethE C m (spO W k F) W0 ta tr) (dMethON k cls m F δa δr) := fun tp G H σ ρ τ Q E P =>
  ha _ _ _ _ _ _ _ E (P.bind fun x τ1 v G1 H1 e1 E1 r1 P1 => by
    subst hC
    split at P1
    · rename_i C fs
      by_cases h : C = cls ∧ fs.lookup m = none
      · rw [if_pos h] at P1
        obtain ⟨rfl, hl⟩ := h
        cases r1 with | obj hg rf =>
        refine ⟨_, _, _, rfl, E1.g _ _ hg, rf.lookN hl, hr _ _ _ _ _ _ _ E1 (P1.bind fun as τ2 vs G2 H2 e2 E2 r2 P2 => ?_)⟩
        by_cases hk : as.length + 1 = k
        · rw [if_pos hk] at P2
          refine ⟨by rw [List.length_cons, Paired.len r2]; exact hk, tp, G2, _, τ2, E2.g, .cons (show ArgR W tp G2 _ (.fr _) from (Rp.obj hg rf).mono e2.g) r2, E2.t, ?_⟩
          revert P2
          cases F (.fr (.obj C fs) :: as) τ2 with
          | ok c τ' => exact fun P1 p F G' H' e s t w fr => P1 p F G' H' e (E2.ext e s t) w fr
          | ex x τ' => exact fun P1 => P1.elim
          | no => exact fun P1 => P1.elim
        · rw [if_neg hk] at P2
          exact P2.elim
      · rw [if_neg h] at P1
        exact P1.elim
    · exact P1.elim)
/-- f(..).append(c): a new list, changed and let go -/
def dDropApp (φ : PEnv → TS' → R OC) : DS := fun ρ τ => stE (φ ρ τ) ρ fun c τ1 => match c with
  | .lst xs => if xs.length < sizeLine then .ok (.nx ρ) τ1 else .no
  | _ => .no
theorem ds_dropApp {v : V} (hf : DnF W Wx te φ) : DnS W Wx (tDrop (tBM W.K "list" rAppend te (tCons (tC v) tNil))) (dDropApp φ) := fun tp0 G0 H0 tp G H σ ρ τ D E P => by
  refine hf _ _ _ _ _ _ _ E.v ?_
  unfold dDropApp at P
  revert P
  cases φ ρ τ with
  | no => exact fun P => P.elim
  | ex x τ1 => exact fun P d G1 H1 e1 E1 hx => P d tp G1 H1 σ e1.g (E.step e1 E1) hx
  | ok c τ1 =>
    intro P p F G1 H1 e1 E1 w fr
    cases c with
    | lst xs =>
      obtain ⟨rfl, vs, hv, rv⟩ := w
      obtain ⟨n0, n1, n2⟩ := fr p (by simp)
      simp only [stE_ok] at P
      by_cases hl : xs.length < sizeLine
      · rw [if_pos hl] at P
        have f1 : FreeP W G1 H1 σ ρ p := (E.v.noO n0).ext E.v e1
        have E1s := E.step e1 E1
        have h00 : H0 p = none := by
          cases q : H0 p with
          | none => rfl
          | some o =>
            have : tp0 ≠ some p := fun z => by
              rcases E.t with y | ⟨y, _⟩
              · rw [y] at n2; exact n2 z
              · rw [y] at z; cases z
            rw [E.e.h p o this q] at n0
            cases n0
        refine ⟨.inl ⟨rfl, vs, SqL.of hv⟩, p, vs, v, rfl, rfl, hv, by rw [rv.length]; exact hl, ?_⟩
        have bk : ∀ {j : Nat} {c : OC} {a : Addr} {F : List Addr}, ρ[j]? = some (some (PV.ow c)) → σ[j]? = some (some (V.ref a)) → OwR W G1 (upd H1 p (.lst (vs ++ [v]))) a c F → OwR W G1 H1 a c F := fun {j c a F} h1 h2 w => by
          obtain ⟨F0, w0, _⟩ := E1.own h1 h2
          have w1 : OwR W G1 (upd H1 p (.lst (vs ++ [v]))) a c F0 := w0.keep (Same.refl _) fun q hq u hu => by
            rw [upd_ne (fun z => f1 _ _ _ _ h1 h2 w0 (by rw [← z]; exact hq))]; exact hu
          rw [w.uniq w1]
          exact w0
        exact P tp G1 _ σ e1.g ⟨E1.mutH n1 n2 f1, E1s.e.mut h00, fun j c a F h1 h2 w => E1s.o j c a F h1 h2 (bk h1 h2 w), E.t⟩
      · rw [if_neg hl] at P
        exact P.elim
    | dK kvs => exact P.elim
    | tr k ts => exact P.elim
end
/-! K written out, for comprehensions -/
theorem op_eqOK {X : Cx} (K : PySem.W.Frag) {C : Addr} {ps : List Str} {sp : Sp} {k : Nat} (h : SpC X.prog X.w X.K X.mg X.base k C "__eq__" ps sp) (hgd : X.A.guards = some []) (hr : Room k X.A) (hK : X.K = K := by rfl) : OpR X (compareOp .Eq) (rEqO K C false sp) := by subst hK; exact op_eqO h hgd hr
theorem op_neOK {X : Cx} (K : PySem.W.Frag) {C : Addr} {ps : List Str} {sp : Sp} {k : Nat} (h : SpC X.prog X.w X.K X.mg X.base k C "__eq__" ps sp) (hne : PySem.W.findIn K (.ref C) "__ne__" = some (some (.builtin "object.__ne__"))) (hm : PySem.W.mroIn K C (.type "object") = some true)
    (hgd : X.A.guards = some []) (hr : Room (k + 1) X.A) (hK : X.K = K := by rfl) : OpR X (compareOp .NotEq) (rEqO K C true sp) := by subst hK; exact op_neO h hne hm hgd hr
theorem ps_fldK {X : Cx} (K : PySem.W.Frag) {o value : Expr} {f : Str} {pos pos' : Pos} {ta tv : TE} (ha : PE X o ta) (hv : PE X value tv) (hs : swapsWith value (some (.Attribute o f pos')) pos.line X.env = pure false) (hK : X.K = K := by rfl) : PS X (.Assign [.Attribute o f pos'] value pos) (sFld K ta tv f) := by subst hK; exact ps_fld ha hv hs
end Np

set_option Elab.async false
set_option linter.all false
set_option maxRecDepth 100000
set_option maxHeartbeats 4000000
namespace Np
open PySem PySem.Spec PyProof.Rows L2
/-! ### len(range(n)), x is True -/
def tLenRg (te : L2.St → Hp → (Int → Int → Hp → Prop) → Prop) : TE := fun σ H Q => te σ H fun a b H1 => ((b - a).toNat : Int) < 2 ^ 63 ∧ Q (.int ((b - a).toNat : Nat)) H1
theorem pe_lenRg {X : Cx} {e : Expr} {te : L2.St → Hp → (Int → Int → Hp → Prop) → Prop} {p pos : Pos} (hg : Gl X "len") (hm : X.mg "len" = none) (he : PRg X e te) (na : starEach [e] X.env = (false, eval e X.env) :: starEach [] X.env := by rfl) :
    PE X (.Call (.Name "len" p) [e] [] pos) (tLenRg te) := by
  refine ⟨fun pins s σ H Q I h => ?_⟩
  refine Call_ (ld_blt I hg hm boot_len ?_)
  refine PyProof.Rows.callWith_builtin1 (PyProof.Rows.args_cons (L2.thn (he pins s σ H _ I h) fun x s1 ⟨r, a, b, t, u, v, H1, ex, hr, I1, ok, q⟩ => PyProof.Rows.args_nil ?_) na) na rfl
  subst ex
  exact call_len_range hr (rangeSize_nat a b) ok ⟨.int ((b - a).toNat : Nat), H1, I1.tok _, ⟨_, rfl⟩, q⟩
def gLenRg1 : DD → Option DD
  | .int n => if (n.toNat : Int) < 2 ^ 63 then some (.int n.toNat) else none
  | _ => none
section
variable {W : Wp} {Wx : L2.St → XK} {ta : TE} {δa : DE}
theorem gLenRg1_some {a c : DD} (h : gLenRg1 a = some c) : ∃ n : Int, a = .int n ∧ (n.toNat : Int) < 2 ^ 63 ∧ c = .int n.toNat := by
  unfold gLenRg1 at h
  split at h
  · rename_i n
    by_cases hn : (n.toNat : Int) < 2 ^ 63
    · rw [if_pos hn] at h
      exact ⟨n, rfl, hn, (Option.some.inj h).symm⟩
    · rw [if_neg hn] at h
      exact nomatch h
  · exact nomatch h
theorem dn_lenRg1 (ha : Dn W Wx ta δa) : Dn W Wx (tLenRg (tRg1 ta)) (dUn gLenRg1 δa) := fun tp G H σ ρ τ Q E P =>
  ha _ _ _ _ _ _ _ E (P.bind fun a τ1 x G1 H1 e1 E1 r1 P1 => by
    obtain ⟨c, hc, P2⟩ := P1.of
    obtain ⟨n, rfl, h, rfl⟩ := gLenRg1_some hc
    refine ⟨n, r1.int_of, ?_, ?_⟩
    · rw [Int.sub_zero]; exact h
    · rw [Int.sub_zero]; exact P2 _ G1 H1 Ext.refl E1 (.int _))
def gIsB : DD → DD → Option DD
  | .bl a, .bl b => some (.bl (decide (a = b)))
  | _, _ => none
theorem od_isB : OpD W (fun x y H Q => ∃ a b, x = .bl a ∧ y = .bl b ∧ Q (.bl (decide (a = b))) H) gIsB := by
  intro G H x y a b c Q s rx ry e k
  cases a <;> cases b <;> first | (cases e; done) | skip
  cases e
  exact ⟨_, _, rx.bl_of, ry.bl_of, k _ G H ext_n s (.bl _)⟩
/-! t[lo:hi] of a tuple -/
def gSlT : DD → Option Int → Option Int → Option DD
  | .tup ds, lo, hi => some (.tup (cutL ds lo hi))
  | _, _, _ => none
theorem cutL_whole {ds : List DD} {lo hi : Option Int} (h : HT.sIx ds.length 0 lo = 0 ∧ HT.sIx ds.length ds.length hi = ds.length) : cutL ds lo hi = ds := by
  unfold cutL
  rw [h.1, h.2, List.drop_zero, Nat.sub_zero, List.take_length]
theorem sd_tupA : SlD W (rSlA W.K) gSlT := by
  intro G H x a c lo hi Q s ra e k
  cases ra <;> first | (cases e; done) | skip
  rename_i p xs ds h r
  cases e
  refine ⟨p, xs, rfl, SqT.of (s _ _ h), fun hw => ?_, fun _ p n => k _ _ _ (Ext.new n s) (same_both s) (rp_newT (s.free n) (r.cut lo hi))⟩
  rw [r.length] at hw
  have e := cutL_whole hw
  rw [e] at k
  exact k _ G H ext_n s (.tup h r)
end
theorem sl_tupAK {X : Cx} (K : PySem.W.Frag) (h : X.K = K := by rfl) : SlR X (rSlA K) := by subst h; exact sl_tupA
end Np

set_option Elab.async false
set_option linter.all false
set_option maxRecDepth 100000
set_option maxHeartbeats 4000000
/-! zip(list, list, strict=True) of two lists of one length. -/
namespace Np
open PySem PySem.Spec PyProof.Rows L2
abbrev ZipS (h : Heap) (z a b : Addr) (f : Value) : Prop :=
  h.get? z = some { cls := .type "zip", dict := none, data := .fields #[f, .bool false, .bool true, .ref a, .ref b], slots := #[] }
section
variable {prog : Program} {w : World} {A : Around} {E : Value → Shared → Prop} {s : Shared}
theorem drawI {it l : Addr} {i : Nat} {xs : Array Value} {x : Value} {Q : Option Value → Shared → Prop} (h1 : s.heap.IsListIter it l i) (h2 : s.heap.IsList l xs) (hx : xs[i]? = some x)
    (k : ∀ g, g.IsListIter it l (i + 1) → Heap.SameBut it s.heap g → Q (some x) { s with heap := g }) : wpAny (model prog w) A (Builtin.SmallTypes.nextOrEnd (.ref it)) Q E s := by
  unfold Builtin.SmallTypes.nextOrEnd
  exact wpAny_bind (wpAny_attempt (wpAny_nextOf_list_item h1 h2 hx fun g a b => wpAny_pure (k g a b)))
theorem drawE {it l : Addr} {i : Nat} {xs : Array Value} {Q : Option Value → Shared → Prop} (hh : A.handled = none) (h1 : s.heap.IsListIter it l i) (h2 : s.heap.IsList l xs) (hx : xs[i]? = none)
    (k : ∀ g, Heap.ExtBut it s.heap g → Q none { s with heap := g }) : wpAny (model prog w) A (Builtin.SmallTypes.nextOrEnd (.ref it)) Q E s := by
  unfold Builtin.SmallTypes.nextOrEnd
  refine wpAny_bind (wpAny_attempt (wpAny_nextOf_list_end hh h1 h2 hx fun g e a b => ?_))
  obtain ⟨o, ho, hc⟩ := b
  exact wpAny_bind (wpAny_isInstance (T := "StopIteration") (b := true) ⟨o, ho, hc⟩ isSubtype_stop (wpAny_pure (k g a)))

theorem zipS_item {z TI TO i1 i2 l1 l2 : Addr} {k : Nat} {xs ys : Array Value} {x y a b : Value} {Q : Value → Shared → Prop} (D : ZipApart z TI TO i1 i2 l1 l2)
    (hz : ZipS s.heap z TI TO .none) (hI : IsPair s.heap TI (.ref i1) (.ref i2)) (hO : IsPair s.heap TO a b)
    (h1 : s.heap.IsListIter i1 l1 k) (h2 : s.heap.IsListIter i2 l2 k) (m1 : s.heap.IsList l1 xs) (m2 : s.heap.IsList l2 ys) (hx : xs[k]? = some x) (hy : ys[k]? = some y)
    (hQ : ∀ g, ZipS g z TI TO (rawInt s.heap.objs.size) → IsPair g TO x y → g.IsListIter i1 l1 (k + 1) → g.IsListIter i2 l2 (k + 1) → IsPair g s.heap.objs.size x y → g.objs.size = s.heap.objs.size + 1 →
      (∀ c o, c ≠ z → c ≠ TO → c ≠ i1 → c ≠ i2 → s.heap.get? c = some o → g.get? c = some o) → Q (.ref s.heap.objs.size) { s with heap := g }) :
    wpAny (model prog w) A (Builtin.«zip.__next__» ⟨[.ref z], []⟩) (fun fin t => ∃ v, fin = .done (.ret v) ∧ Q v t) E s := by
  show wpAny _ _ (field (.ref z) 2 >>= _) _ _ _
  refine wpAny_bind (wpAny_field hz rfl (x := .bool true) rfl ?_)
  show wpAny _ _ (field (.ref z) 3 >>= _) _ _ _
  refine wpAny_bind (wpAny_field hz rfl (x := .ref TI) rfl (wpAny_bind (wpAny_seqItems hI rfl ?_)))
  show wpAny _ _ (Builtin.SmallTypes.ownedTupleIsFree (.ref z) >>= _) _ _ _
  refine wpAny_bind ?_
  unfold Builtin.SmallTypes.ownedTupleIsFree
  refine wpAny_bind (wpAny_field hz rfl (x := .none) rfl (wpAny_pure ?_))
  simp only [if_true]
  refine wpAny_bind (wpAny_rule (wpAny_bind (wpAny_field hz rfl (x := .ref TO) rfl (wpAny_bind (wpAny_setField_rec hz (by simp) fun g1 z1 s1 => wpAny_bind ?_)))))
  replace z1 : ZipS g1 z TI TO .ellipsis := z1
  simp only [List.zipIdx_cons, List.zipIdx_nil, List.forIn_cons, List.forIn_nil]
  refine wpAny_bind (wpAny_bind (wpAny_onRaise ?_))
  show wpAny _ _ (Builtin.SmallTypes.nextOrEnd (.ref i1)) _ _ _
  refine drawI (h1.extBut s1.extBut D.i1z) (m1.extBut s1.extBut D.l1z) hx fun g2 j2 s2 => ?_
  have o2 : IsPair g2 TO a b := s2.extBut _ _ D.TOi1 (s1.extBut _ _ D.TOz hO)
  refine wpAny_bind (wpAny_seqItems o2 rfl (wpAny_bind (wpAny_updateSeq_pair o2 fun g3 o3 s3 => ?_)))
  replace o3 : IsPair g3 TO x b := o3
  refine wpAny_bind (wpAny_letGo (wpAny_pure (wpAny_bind (wpAny_bind (wpAny_onRaise ?_)))))
  show wpAny _ _ (Builtin.SmallTypes.nextOrEnd (.ref i2)) _ _ _
  refine drawI (((h2.extBut s1.extBut D.i2z).extBut s2.extBut D.i12.symm).extBut s3.extBut D.TOi2.symm) (((m2.extBut s1.extBut D.l2z).extBut s2.extBut D.l2i1).extBut s3.extBut D.l2TO) hy fun g4 j4 s4 => ?_
  have o4 : IsPair g4 TO x b := s4.extBut _ _ D.TOi2 o3
  refine wpAny_bind (wpAny_seqItems o4 rfl (wpAny_bind (wpAny_updateSeq_pair o4 fun g5 o5 s5 => ?_)))
  replace o5 : IsPair g5 TO x y := o5
  refine wpAny_bind (wpAny_letGo (wpAny_pure (wpAny_pure (wpAny_bind (wpAny_seqItems o5 rfl (wpAny_bind (wpAny_newTuple ?_)))))))
  have esz : g5.objs.size = s.heap.objs.size := by rw [s5.1, s4.1, s3.1, s2.1, s1.1]
  have z5 : ZipS g5 z TI TO .ellipsis := s5.extBut _ _ D.TOz.symm (s4.extBut _ _ D.i2z.symm (s3.extBut _ _ D.TOz.symm (s2.extBut _ _ D.i1z.symm z1)))
  have k5 : ∀ c o, c ≠ z → c ≠ TO → c ≠ i1 → c ≠ i2 → s.heap.get? c = some o → g5.get? c = some o := fun c o c1 c2 c3 c4 e =>
    s5.extBut _ _ c2 (s4.extBut _ _ c4 (s3.extBut _ _ c2 (s2.extBut _ _ c3 (s1.extBut _ _ c1 e))))
  have j1 : g5.IsListIter i1 l1 (k + 1) := ((j2.extBut s3.extBut D.TOi1.symm).extBut s4.extBut D.i12).extBut s5.extBut D.TOi1.symm
  have j5 : g5.IsListIter i2 l2 (k + 1) := j4.extBut s5.extBut D.TOi2.symm
  have zl : z < g5.objs.size := Heap.lt_size z5
  show wpAny _ _ (Builtin.SmallTypes.ownedTupleHandOut (.ref z) (.ref g5.objs.size) >>= _) _ _ _
  refine wpAny_bind ?_
  unfold Builtin.SmallTypes.ownedTupleHandOut
  have z6 : ZipS (g5.push { cls := .type "tuple", data := .seq #[x, y] }) z TI TO .ellipsis := Heap.get?_push_of_some _ z5
  refine wpAny_bind (wpAny_setField_rec z6 (by simp) fun g7 z7 s7 => ?_)
  replace z7 : ZipS g7 z TI TO (rawInt g5.objs.size) := z7
  refine wpAny_setField_rec z7 (by simp) fun g8 z8 s8 => ?_
  replace z8 : ZipS g8 z TI TO (rawInt g5.objs.size) := z8
  have up : ∀ c o, c ≠ z → g5.get? c = some o → g8.get? c = some o := fun c o c1 e => s8.extBut _ _ c1 (s7.extBut _ _ c1 (Heap.get?_push_of_some _ e))
  have p8 : IsPair g8 g5.objs.size x y := s8.extBut _ _ (Nat.ne_of_gt zl) (s7.extBut _ _ (Nat.ne_of_gt zl) (Heap.get?_push_size _ rfl))
  have e8 : g8.objs.size = g5.objs.size + 1 := by rw [s8.1, s7.1, Heap.size_push]
  rw [esz] at z8 p8 e8
  refine wpAny_pure ⟨_, rfl, ?_⟩
  show Q (.ref g5.objs.size) _
  rw [esz]
  exact hQ g8 z8 (up _ _ D.TOz o5) (j1.at fun o e => up _ o D.i1z e) (j5.at fun o e => up _ o D.i2z e) p8 e8 fun c o c1 c2 c3 c4 e => up c o c1 (k5 c o c1 c2 c3 c4 e)

theorem stopK {α : Type} {Q : α → Shared → Prop} (hh : A.handled = none) (k : ∀ g e, (∀ c o, s.heap.get? c = some o → g.get? c = some o) → (∃ o, g.get? e = some o ∧ o.cls = .type "StopIteration") → E (.ref e) { s with heap := g }) :
    wpAny (model prog w) A (Builtin.SmallTypes.stopIteration : Sem α) Q E s := by
  unfold Builtin.SmallTypes.stopIteration
  refine wpAny_bind ?_
  simp only [newExc, newTuple]
  refine wpAny_bind (wpAny_newObj_type ?_ (by size_fits))
  refine wpAny_bind (m := firstArgMember _ _) (wpAny_of_eq (a := Value.none) (by first | rfl | (simp only [firstArgMember]; rfl)) ?_)
  refine wpAny_newObj_type ?_ (by size_fits)
  refine wpAny_raiseNew_none hh (k _ _ (fun c o e => Heap.get?_push_of_some _ (Heap.get?_push_of_some _ e)) ⟨_, Heap.get?_push_size _ rfl, rfl⟩)

theorem zipS_end {z TI TO i1 i2 l1 l2 : Addr} {k : Nat} {xs ys : Array Value} {a b : Value} {Q : Fin → Shared → Prop} (hh : A.handled = none) (D : ZipApart z TI TO i1 i2 l1 l2)
    (hz : ZipS s.heap z TI TO .none) (hI : IsPair s.heap TI (.ref i1) (.ref i2)) (hO : IsPair s.heap TO a b)
    (h1 : s.heap.IsListIter i1 l1 k) (h2 : s.heap.IsListIter i2 l2 k) (m1 : s.heap.IsList l1 xs) (m2 : s.heap.IsList l2 ys) (hx : xs[k]? = none) (hy : ys[k]? = none)
    (hE : ∀ g e, (∀ c o, c ≠ z → c ≠ TO → c ≠ i1 → c ≠ i2 → s.heap.get? c = some o → g.get? c = some o) → (∃ o, g.get? e = some o ∧ o.cls = .type "StopIteration") → E (.ref e) { s with heap := g }) :
    wpAny (model prog w) A (Builtin.«zip.__next__» ⟨[.ref z], []⟩) Q E s := by
  show wpAny _ _ (field (.ref z) 2 >>= _) _ _ _
  refine wpAny_bind (wpAny_field hz rfl (x := .bool true) rfl ?_)
  show wpAny _ _ (field (.ref z) 3 >>= _) _ _ _
  refine wpAny_bind (wpAny_field hz rfl (x := .ref TI) rfl (wpAny_bind (wpAny_seqItems hI rfl ?_)))
  show wpAny _ _ (Builtin.SmallTypes.ownedTupleIsFree (.ref z) >>= _) _ _ _
  refine wpAny_bind ?_
  unfold Builtin.SmallTypes.ownedTupleIsFree
  refine wpAny_bind (wpAny_field hz rfl (x := .none) rfl (wpAny_pure ?_))
  simp only [if_true]
  refine wpAny_bind (wpAny_rule (wpAny_bind (wpAny_field hz rfl (x := .ref TO) rfl (wpAny_bind (wpAny_setField_rec hz (by simp) fun g1 z1 s1 => wpAny_bind ?_)))))
  replace z1 : ZipS g1 z TI TO .ellipsis := z1
  simp only [List.zipIdx_cons, List.zipIdx_nil, List.forIn_cons, List.forIn_nil]
  refine wpAny_bind (wpAny_bind (wpAny_onRaise ?_))
  show wpAny _ _ (Builtin.SmallTypes.nextOrEnd (.ref i1)) _ _ _
  refine drawE hh (h1.extBut s1.extBut D.i1z) (m1.extBut s1.extBut D.l1z) hx fun g2 s2 => ?_
  have z2 : ZipS g2 z TI TO .ellipsis := s2 _ _ D.i1z.symm z1
  refine wpAny_bind (wpAny_setField_rec z2 (by simp) fun g3 z3 s3 => ?_)
  refine wpAny_bind ?_
  show wpAny _ _ ((forIn [(Value.ref i2, 1)] PUnit.unit _ : Sem _) >>= _) _ _ _
  simp only [List.forIn_cons, List.forIn_nil]
  refine wpAny_bind (wpAny_bind (wpAny_bind (drawE hh (((h2.extBut s1.extBut D.i2z).extBut s2 D.i12.symm).extBut s3.extBut D.i2z) (((m2.extBut s1.extBut D.l2z).extBut s2 D.l2i1).extBut s3.extBut D.l2z) hy fun g4 s4 => wpAny_pure (wpAny_pure (wpAny_bind (wpAny_rule (stopK hh fun g5 e s5 he => ?_)))))))
  obtain ⟨o, ho, hc⟩ := he
  have z5 : ZipS g5 z TI TO .none := s5 _ _ (s4 _ _ D.i2z.symm z3)
  exact hE g5 e (fun c o c1 c2 c3 c4 q => s5 _ _ (s4 _ _ c4 (s3.extBut _ _ c1 (s2 _ _ c3 (s1.extBut _ _ c1 q))))) ⟨o, ho, hc⟩

theorem nextS_item {z TI TO i1 i2 l1 l2 : Addr} {k : Nat} {xs ys : Array Value} {x y a b : Value} {Q : Option Value → Shared → Prop} (D : ZipApart z TI TO i1 i2 l1 l2)
    (hz : ZipS s.heap z TI TO .none) (hI : IsPair s.heap TI (.ref i1) (.ref i2)) (hO : IsPair s.heap TO a b)
    (h1 : s.heap.IsListIter i1 l1 k) (h2 : s.heap.IsListIter i2 l2 k) (m1 : s.heap.IsList l1 xs) (m2 : s.heap.IsList l2 ys) (hx : xs[k]? = some x) (hy : ys[k]? = some y)
    (hQ : ∀ g, ZipS g z TI TO (rawInt s.heap.objs.size) → IsPair g TO x y → g.IsListIter i1 l1 (k + 1) → g.IsListIter i2 l2 (k + 1) → IsPair g s.heap.objs.size x y → g.objs.size = s.heap.objs.size + 1 →
      (∀ c o, c ≠ z → c ≠ TO → c ≠ i1 → c ≠ i2 → s.heap.get? c = some o → g.get? c = some o) → Q (some (.ref s.heap.objs.size)) { s with heap := g }) :
    wpAny (model prog w) A (pyNext (.ref z)) Q E s := by
  have ty : s.TypeIs (.ref z) "zip" := ⟨_, hz, rfl⟩
  unfold pyNext
  exact wpAny_bind (wpAny_attempt (wpAny_callSpecial?_slot (name := Str.ofString "__next__") ty F.slot_zip_next
    (wpAny_call_entry F.slot_zip_next ty F.entry_zip_next
      (zipS_item D hz hI hO h1 h2 m1 m2 hx hy fun g a1 a2 a3 a4 a5 a6 a7 => wpAny_pure (hQ g a1 a2 a3 a4 a5 a6 a7)) (F.args_zip_next_1 _))))
theorem nextS_end {z TI TO i1 i2 l1 l2 : Addr} {k : Nat} {xs ys : Array Value} {a b : Value} {Q : Option Value → Shared → Prop} (hh : A.handled = none) (D : ZipApart z TI TO i1 i2 l1 l2)
    (hz : ZipS s.heap z TI TO .none) (hI : IsPair s.heap TI (.ref i1) (.ref i2)) (hO : IsPair s.heap TO a b)
    (h1 : s.heap.IsListIter i1 l1 k) (h2 : s.heap.IsListIter i2 l2 k) (m1 : s.heap.IsList l1 xs) (m2 : s.heap.IsList l2 ys) (hx : xs[k]? = none) (hy : ys[k]? = none)
    (hQ : ∀ g, (∀ c o, c ≠ z → c ≠ TO → c ≠ i1 → c ≠ i2 → s.heap.get? c = some o → g.get? c = some o) → Q none { s with heap := g }) : wpAny (model prog w) A (pyNext (.ref z)) Q E s := by
  have ty : s.TypeIs (.ref z) "zip" := ⟨_, hz, rfl⟩
  unfold pyNext
  refine wpAny_bind (wpAny_attempt (wpAny_callSpecial?_slot (name := Str.ofString "__next__") ty F.slot_zip_next
    (wpAny_call_entry F.slot_zip_next ty F.entry_zip_next (zipS_end hh D hz hI hO h1 h2 m1 m2 hx hy fun g e hk he => ?_) (F.args_zip_next_1 _))))
  obtain ⟨o, ho, hc⟩ := he
  exact wpAny_bind (wpAny_isInstance (T := "StopIteration") (b := true) ⟨o, ho, hc⟩ isSubtype_stop (wpAny_pure (hQ _ hk)))
theorem goS {elts : List Expr} {q : Nat} {pos : Pos} {z TI TO T : Addr} {Q : Unit → Shared → Prop} (hz : ZipS s.heap z TI TO (rawInt T))
    (hQ : ∀ g, ZipS g z TI TO .none → Heap.SameBut z s.heap g → Q () { s with heap := g }) :
    wpAny (model prog w) A (letOwnedTupleGo (.Tuple elts q pos) (.ref z) (.ref T)) Q E s := by
  unfold letOwnedTupleGo
  refine wpAny_bind (wpAny_load hz ?_)
  show wpAny _ _ (if (["enumerate", "zip", "dict_itemiterator", "dict_reverseitemiterator", "odict_iterator", "itertools.zip_longest", "itertools.pairwise"].contains "zip" &&
      (#[rawInt T, .bool false, .bool true, .ref TI, .ref TO] : Array Value)[0]? == some (rawInt T)) = true then _ else _) Q E s
  rw [if_pos (by simp)]
  refine wpAny_bind (wpAny_rule ?_)
  show wpAny _ _ (setField (.ref z) 0 .none) Q E s
  exact wpAny_setField_rec hz (by simp) fun g a b => hQ g a b
theorem iterS {z TI TO : Addr} {f : Value} {Q : Value → Shared → Prop} (hz : ZipS s.heap z TI TO f) (h : Q (.ref z) s) : wpAny (model prog w) A (pyIter (.ref z)) Q E s := by
  have ty : s.TypeIs (.ref z) "zip" := ⟨_, hz, rfl⟩
  refine wpAny_pyIter_slot ty F.slot_zip_iter (wpAny_call_entry F.slot_zip_iter ty F.entry_zip_iter ?_ (F.args_zip_iter_1 _))
  show wpAny _ _ (ret (.ref z)) _ _ s
  exact wpAny_pure ⟨_, rfl, "zip", _, ty, F.slot_zip_next.lookup, h⟩
end

theorem zkT (a b c : Value) : checkTypeCall "zip" ⟨[a, b], [(Str.ofString "strict", c)]⟩ = pure () := by kernel_rfl
theorem zkN (a b c : Value) : checkBuiltinCall "zip.__new__" ⟨[.type "zip", a, b], [(Str.ofString "strict", c)]⟩ = pure () := by kernel_rfl
theorem zkI (o a b c : Value) : argsOk "object.__init__" ⟨[o, a, b], [(Str.ofString "strict", c)]⟩ := by unfold argsOk; kernel_rfl
abbrev zsH (h : Heap) (l1 l2 : Addr) : Heap := (zipH4 h l1 l2).push { cls := .type "zip", data := .fields #[.none, .bool false, .bool true, .ref (zipH2 h l1 l2).objs.size, .ref (zipH3 h l1 l2).objs.size] }
set_option maxHeartbeats 1000000 in
theorem zk_new (l1 l2 : Addr) (xs ys : Array Value) :
    Meets (Builtin.«zip.__new__» ⟨[.type "zip", .ref l1, .ref l2], [(Str.ofString "strict", .bool true)]⟩) (fun _ R s => s.heap.IsList l1 xs ∧ s.heap.IsList l2 ys ∧
      R (.ok (.ret (.ref (zipH4 s.heap l1 l2).objs.size))) { s with heap := zsH s.heap l1 l2 }) :=
  .of_wp fun prog w A R s hh => by
    obtain ⟨hp, g, d, tk, os⟩ := s; obtain ⟨m1, m2, hh⟩ := hh
    have sub := sub_zip
    have L1 : Heap.IsList (Shared.heap ⟨hp, g, d, tk, os⟩) l1 xs := m1
    have L2 : Heap.IsList (Shared.heap ⟨hp.push { cls := .type "list_iterator", data := .fields #[.ref l1, .int 0 0] }, g, d, tk, os⟩) l2 ys := Heap.IsList.push m2 _
    have e1 : (Str.ofString "strict" != ("strict" : Str)) = false := by decide +kernel
    have e2 : (Str.ofString "strict" == ("strict" : Str)) = true := by decide +kernel
    wp_walk using wpAny_pyIter_list L1, wpAny_pyIter_list L2
    exact ⟨_, rfl, hh⟩

section
variable {prog : Program} {w : World} {A : Around} {E : Value → Shared → Prop} {s : Shared}
theorem zk_call {l1 l2 : Addr} {xs ys : Array Value} {Q : Value → Shared → Prop} (m1 : s.heap.IsList l1 xs) (m2 : s.heap.IsList l2 ys)
    (k : ∀ g, ZipS g (s.heap.objs.size + 4) (s.heap.objs.size + 2) (s.heap.objs.size + 3) .none → IsPair g (s.heap.objs.size + 2) (.ref s.heap.objs.size) (.ref (s.heap.objs.size + 1)) →
      IsPair g (s.heap.objs.size + 3) .none .none → g.IsListIter s.heap.objs.size l1 0 → g.IsListIter (s.heap.objs.size + 1) l2 0 →
      (∀ c o, s.heap.get? c = some o → g.get? c = some o) → Q (.ref (s.heap.objs.size + 4)) { s with heap := g }) :
    wpAny (model prog w) A (call (.type "zip") [.ref l1, .ref l2] [(Str.ofString "strict", .bool true)]) Q E s := by
  refine callType_newKw F.called_zip (by decide) (zkT _ _ _) (zkN _ _ _) (fun obj => zkI obj _ _ _) F.entry_zip_new (zk_new l1 l2 xs ys) ⟨m1, m2, ?_⟩
  have z1 : (zipH1 s.heap l1).objs.size = s.heap.objs.size + 1 := Heap.size_push ..
  have z2 : (zipH2 s.heap l1 l2).objs.size = s.heap.objs.size + 2 := by rw [Heap.size_push, z1]
  have z3 : (zipH3 s.heap l1 l2).objs.size = s.heap.objs.size + 3 := by rw [Heap.size_push, z2]
  have z4 : (zipH4 s.heap l1 l2).objs.size = s.heap.objs.size + 4 := by rw [Heap.size_push, z3]
  have g5 : (zsH s.heap l1 l2).get? (zipH4 s.heap l1 l2).objs.size = some _ := Heap.get?_push_size _ rfl
  have g4 : (zsH s.heap l1 l2).get? (zipH3 s.heap l1 l2).objs.size = some _ := Heap.get?_push_of_some _ (Heap.get?_push_size _ rfl)
  have g3 : (zsH s.heap l1 l2).get? (zipH2 s.heap l1 l2).objs.size = some _ := Heap.get?_push_of_some _ (Heap.get?_push_of_some _ (Heap.get?_push_size _ rfl))
  have g2 : (zsH s.heap l1 l2).get? (zipH1 s.heap l1).objs.size = some _ := Heap.get?_push_of_some _ (Heap.get?_push_of_some _ (Heap.get?_push_of_some _ (Heap.get?_push_size _ rfl)))
  have g1 : (zsH s.heap l1 l2).get? s.heap.objs.size = some _ := Heap.get?_push_of_some _ (Heap.get?_push_of_some _ (Heap.get?_push_of_some _ (Heap.get?_push_of_some _ (Heap.get?_push_size _ rfl))))
  show _ ∧ _
  rw [z2, z3, z4] at g5
  rw [z1, z2] at g3
  rw [z3] at g4
  rw [z1] at g2
  rw [z4]
  exact ⟨⟨_, g5, rfl⟩, k _ g5 g3 g4 ⟨_, g1, rfl, rfl⟩ ⟨_, g2, rfl, rfl⟩ fun c o x =>
    Heap.get?_push_of_some _ (Heap.get?_push_of_some _ (Heap.get?_push_of_some _ (Heap.get?_push_of_some _ (Heap.get?_push_of_some _ x))))⟩
end

def ItS (K : PySem.W.Frag) (a b : Addr) : It :=
  ⟨fun i H => ∃ (xs ys : List V) (x y : V), SqL K H a xs ∧ SqL K H b ys ∧ xs[i]? = some x ∧ ys[i]? = some y,
    fun i H v H' => ∃ T x y, v = .ref T ∧ H T = none ∧ H' = upd H T (.tup [x, y]) ∧ (∀ xs, SqL K H a xs → xs[i]? = some x) ∧ ∀ ys, SqL K H b ys → ys[i]? = some y,
    fun i H => ∃ xs ys : List V, SqL K H a xs ∧ SqL K H b ys ∧ xs.length ≤ i ∧ ys.length ≤ i⟩
theorem turn_zipS {P : Program} {w : World} {K : PySem.W.Frag} {elts : List Expr} {kk : Nat} {tpos : Pos} {a b z TI TO i1 i2 : Addr} (D : ZipApart z TI TO i1 i2 a b) :
    Turn P w K (.Tuple elts kk tpos) (ItS K a b) [z, TI, TO, i1, i2] z (fun i h => ZipS h z TI TO .none ∧ IsPair h TI (.ref i1) (.ref i2) ∧ (∃ x y, IsPair h TO x y) ∧ h.IsListIter i1 a i ∧ h.IsListIter i2 b i) where
  mem := by simp
  obj := fun i h st c hc => by
    obtain ⟨hz, hI, ⟨x, y, hO⟩, ⟨o1, e1, _, d1⟩, ⟨o2, e2, _, d2⟩⟩ := st
    have e : c = z ∨ c = TI ∨ c = TO ∨ c = i1 ∨ c = i2 := by simpa using hc
    rcases e with q | q | q | q | q
    · rw [q]; exact ⟨_, hz, fun v q => nomatch q⟩
    · rw [q]; exact ⟨_, hI, fun v q => nomatch q⟩
    · rw [q]; exact ⟨_, hO, fun v q => nomatch q⟩
    · rw [q]; exact ⟨o1, e1, fun v q => by rw [d1] at q; cases q⟩
    · rw [q]; exact ⟨o2, e2, fun v q => by rw [d2] at q; cases q⟩
  keep := fun i h h' st k => by
    obtain ⟨hz, hI, ⟨x, y, hO⟩, j1, j2⟩ := st
    exact ⟨k z (by simp) _ hz, k TI (by simp) _ hI, ⟨x, y, k TO (by simp) _ hO⟩, j1.at fun o q => k i1 (by simp) o q, j2.at fun o q => k i2 (by simp) o q⟩
  item := by
    intro X hP hw hK hc i pins s σ H E I hf st hg
    subst hP hw hK
    obtain ⟨hz, hI, ⟨x0, y0, hO⟩, j1, j2⟩ := st
    obtain ⟨xs, ys, x, y, q1, q2, hx, hy⟩ := hg
    obtain ⟨its, rv, p, _⟩ := I.list q1
    obtain ⟨jts, rv2, p2, _⟩ := I.list q2
    obtain ⟨u, hu, ru⟩ := rv.get hx
    obtain ⟨v, hv, rw'⟩ := rv2.get hy
    have zl : z < s.heap.objs.size := Heap.lt_size hz
    refine nextS_item D hz hI hO j1 j2 p.isList p2.isList (x := u) (y := v) (by simpa using hu) (by simpa using hv) fun g z' O' j1' j2' hT _ hk => ?_
    refine ⟨_, rfl, goS (s := { s with heap := g }) z' fun g' z'' sb => ?_⟩
    have hT2 : g'.get? s.heap.objs.size = some { cls := .type "tuple", data := .seq #[u, v] } := (sb.2 _ (Nat.ne_of_gt zl)).trans hT
    have new : ObjOk X.prog X.w (upd H s.heap.objs.size (.tup [x, y])) g' s.heap.objs.size (.tup [x, y]) :=
      ⟨by show 2 ≤ sizeLine; decide, [u, v], .cons ru (.cons rw' .nil), ⟨_, hT2, rfl, _, rfl⟩⟩
    have I1 : Inv X pins σ (upd H s.heap.objs.size (.tup [x, y])) { s with heap := g' } :=
      I.turnedNew (t' := s.toks) (ch := [z, TI, TO, i1, i2]) (fun c o hb q => (sb.2 c (fun q' => hb (by simp [q']))).trans (hk c o (fun q' => hb (by simp [q'])) (fun q' => hb (by simp [q'])) (fun q' => hb (by simp [q'])) (fun q' => hb (by simp [q'])) q)) hf (Nat.le_refl _) new
    refine ⟨.ref s.heap.objs.size, _, I1, rfl, ⟨_, x, y, rfl, I.hok.fresh (Nat.le_refl _), rfl, fun l hl => by rw [I.list_inj hl q1]; exact hx, fun l hl => by rw [I.list_inj hl q2]; exact hy⟩, ⟨z'', ?_, ⟨u, v, ?_⟩, ?_, ?_⟩, fun c hcm => ?_⟩
    · exact (sb.2 _ D.TIz).trans (hk _ _ D.TIz D.TITO D.TIi1 D.TIi2 hI)
    · exact (sb.2 _ D.TOz).trans O'
    · exact j1'.at fun o q => (sb.2 _ D.i1z).trans q
    · exact j2'.at fun o q => (sb.2 _ D.i2z).trans q
    · have lt : c < s.heap.objs.size := by
        have e : c = z ∨ c = TI ∨ c = TO ∨ c = i1 ∨ c = i2 := by simpa using hcm
        rcases e with q | q | q | q | q
        · rw [q]; exact zl
        · rw [q]; exact Heap.lt_size hI
        · rw [q]; exact Heap.lt_size hO
        · rw [q]; obtain ⟨_, e1, _⟩ := j1; exact Heap.lt_size e1
        · rw [q]; obtain ⟨_, e2, _⟩ := j2; exact Heap.lt_size e2
      rw [upd_ne (Nat.ne_of_lt lt)]
      exact (hf c hcm).1
  done := by
    intro X hP hw hK hc i pins s σ H E I hf st hg
    subst hP hw hK
    obtain ⟨hz, hI, ⟨x0, y0, hO⟩, j1, j2⟩ := st
    obtain ⟨xs, ys, q1, q2, e1, e2⟩ := hg
    obtain ⟨its, rv, p, _⟩ := I.list q1
    obtain ⟨jts, rv2, p2, _⟩ := I.list q2
    have l1 := rv.length
    have l2 := rv2.length
    exact nextS_end (I.ok.hd hc) D hz hI hO j1 j2 p.isList p2.isList (by simp; omega) (by simp; omega) fun g hk => ⟨rfl, I.turnedL (t' := s.toks) (ch := [z, TI, TO, i1, i2]) (fun c o hb q =>
      hk c o (fun q' => hb (by simp [q'])) (fun q' => hb (by simp [q'])) (fun q' => hb (by simp [q'])) (fun q' => hb (by simp [q'])) q) hf⟩
  self := fun A i s Q E st h => iterS st.1 h
def iZipS (K : PySem.W.Frag) (ta tk : TA) : TI := fun σ H R => ta σ H fun vs H1 => tk σ H1 fun zs H2 => ∃ a b xs ys, vs = [.ref a, .ref b] ∧ zs = [.bl true] ∧ SqL K H2 a xs ∧ SqL K H2 b ys ∧ R (ItS K a b) H2
theorem pi_zipS {X : Cx} (K : PySem.W.Frag) {e e2 : Expr} {kws : List Keyword} {ta tk : TA} {p pos tpos : Pos} {elts : List Expr} {kk : Nat} (hg : Gl X "zip") (hm : X.mg "zip" = none) (ha : PA X [e, e2] ta) (hkw : PK X kws tk)
    (hall : (backToKw pos (keywordEach kws X.env)).all (·.1.isSome) = true := by rfl) (hks : (backToKw pos (keywordEach kws X.env)).filterMap (·.1) = ([Str.ofString "strict"] : List Str) := by rfl)
    (he : starEach [e, e2] X.env = (false, eval e X.env) :: starEach [e2] X.env := by rfl) (hpl : ((backTo pos (starEach [e, e2] X.env)).any (·.1) || (backToKw pos (keywordEach kws X.env)).any (·.1.isNone)) = false := by rfl) (hK : X.K = K := by rfl) :
    PI X (.Tuple elts kk tpos) (.Call (.Name "zip" p) [e, e2] kws pos) (iZipS K ta tk) := by
  subst hK
  refine ⟨fun pins s σ H R I h => ?_⟩
  refine wpAny_Call_Name_kw (ld_blt I hg hm PyProof.Rows.boot_zip ?_)
  refine PySem.W.callWith_of (P := fun _ => True) hpl (fun h _ => ⟨.machine, .inr (.inl rfl), .of_pure rfl⟩) (evalArgs_kw2 hall (L2.thn (ha.run pos pins s σ H _ I h) fun us s1 hh => ?_) he)
  obtain ⟨vs, H1, I1, r1, q1⟩ := hh
  refine L2.thn (hkw.run pos pins s1 σ H1 _ I1 q1) fun ws s2 hh2 => ?_
  obtain ⟨zs, H2, I2, rz, a, b, xs, ys, rfl, rfl, hq, hq2, q⟩ := hh2
  refine ⟨trivial, ?_⟩
  rw [hks]
  cases r1 with | cons r rr =>
  cases rr with | cons r' rr =>
  cases rr
  cases r
  cases r'
  cases rz with | cons rk rr =>
  cases rr
  cases rk
  obtain ⟨its, rv, p1, _⟩ := I2.list hq
  obtain ⟨jts, rv2, p2, _⟩ := I2.list hq2
  refine zk_call p1.isList p2.isList fun g hz hI hO j1 j2 hk => iterS hz ?_
  have I3 : Inv X pins σ H2 { s2 with heap := g } := I2.kept (t' := s2.toks) hk
  refine ⟨s2.heap.objs.size + 4, [s2.heap.objs.size + 4, s2.heap.objs.size + 2, s2.heap.objs.size + 3, s2.heap.objs.size, s2.heap.objs.size + 1], _, _, H2, rfl, I3, turn_zipS (PySem.W.ktu_apart s2.heap.objs.size a b p1.lt p2.lt), ⟨hz, hI, ⟨_, _, hO⟩, j1, j2⟩, fun c hcm => ?_, q⟩
  have e' : c = s2.heap.objs.size + 4 ∨ c = s2.heap.objs.size + 2 ∨ c = s2.heap.objs.size + 3 ∨ c = s2.heap.objs.size ∨ c = s2.heap.objs.size + 1 := by simpa using hcm
  have le : s2.heap.objs.size ≤ c := by rcases e' with q | q | q | q | q <;> rw [q] <;> first | exact Nat.le_add_right _ _ | exact Nat.le_refl _
  exact I2.fpOk le (I2.hok.fresh le)
section
variable {W : Wp} {Wx : L2.St → XK} {tr tk : TA} {δr δk : DA}
theorem walk_zipS {K : PySem.W.Frag} {a b : Addr} {xs ys : List V} (h : xs.length = ys.length) : Walk (ItS K a b) xs.length (fun H => SqL K H a xs ∧ SqL K H b ys) (YPair (fun i => xs[i]?) (fun i => ys[i]?)) := by
  refine ⟨fun i _ hi q => ⟨xs, ys, xs[i], ys[i]'(by omega), q.1, q.2, by simp [hi], by simp [h ▸ hi]⟩, fun _ q => ⟨xs, ys, q.1, q.2, Nat.le_refl _, by omega⟩, fun i H v H' _ q y => ?_⟩
  obtain ⟨T, x, y, h1, h2, h3, h4, h5⟩ := y
  exact ⟨T, x, y, h1, h2, h3, h4 xs q.1, h5 ys q.2⟩
def dIZipS (a b : DA) : DI := fun ρ τ => (a ρ τ).bind fun x τ1 => (b ρ τ1).bind fun y τ2 => match x, y with
  | [.lst ds, .lst es], [.bl true] => if ds.length = es.length then .ok (zipD ds es) τ2 else .no
  | _, _ => .no
theorem di_zipS (hr : DnA W Wx tr δr) (hk : DnA W Wx tk δk) : DnI W Wx (iZipS W.K tr tk) (dIZipS δr δk) := fun tp G H σ ρ τ Q E P =>
  hr _ _ _ _ _ _ _ E (P.bind fun a τ1 x G1 H1 e1 E1 r1 P1 => hk _ _ _ _ _ _ _ E1 (P1.bind fun b τ2 y G2 H2 e2 E2 r2 P2 => by
    split at P2
    · rename_i ds es
      by_cases hb : ds.length = es.length
      · rw [if_pos hb] at P2
        cases r1 with | cons r rs =>
        cases rs with | cons r' rs =>
        cases rs
        cases r with | lst h r =>
        cases r' with | lst h' r' =>
        cases r2 with | cons rb rs =>
        cases rs
        cases rb
        have m1 := e2.g _ _ h
        have m2 := e2.g _ _ h'
        have r3 := r.mono e2.g
        have r4 := r'.mono e2.g
        refine ⟨_, _, _, _, rfl, rfl, SqL.of (E2.g _ _ m1), SqL.of (E2.g _ _ m2), P2 _ G2 H2 Ext.refl E2 (ItR.pair (walk_zipS (K := W.K) (by rw [r3.length, r4.length]; exact hb)) (fun H s => ⟨SqL.of (s _ _ m1), SqL.of (s _ _ m2)⟩) (by unfold zipD; rw [List.length_zipWith, r3.length]; omega) fun i d hd u v e1 e2 => ?_)⟩
        obtain ⟨p, hp, rp⟩ := r3.get' e1
        obtain ⟨q, hq, rq⟩ := r4.get' e2
        unfold zipD at hd
        rw [List.getElem?_zipWith, hp, hq] at hd
        cases hd
        exact ⟨_, _, rfl, rp, rq⟩
      · rw [if_neg hb] at P2
        exact P2.elim
    · exact P2.elim))
end
end Np

set_option Elab.async false
set_option linter.all false
set_option maxRecDepth 100000
set_option maxHeartbeats 4000000
namespace Np
open PySem PySem.Spec PyProof.Rows L2
/-! f(..).clear(): a new list, emptied and let go; a test of an object that has an own __len__. -/
section
variable {W : Wp} {Wx : L2.St → XK} {te : TE} {φ : PEnv → TS' → R OC} {δa : DE}
def dDropClr (φ : PEnv → TS' → R OC) : DS := fun ρ τ => stE (φ ρ τ) ρ fun c τ1 => match c with
  | .lst _ => .ok (.nx ρ) τ1
  | _ => .no
theorem ds_dropClr (hf : DnF W Wx te φ) : DnS W Wx (tDrop (tBM0 W.K "list" rClear te)) (dDropClr φ) := fun tp0 G0 H0 tp G H σ ρ τ D E P => by
  refine hf _ _ _ _ _ _ _ E.v ?_
  unfold dDropClr at P
  revert P
  cases φ ρ τ with
  | no => exact fun P => P.elim
  | ex x τ1 => exact fun P d G1 H1 e1 E1 hx => P d tp G1 H1 σ e1.g (E.step e1 E1) hx
  | ok c τ1 =>
    intro P p F G1 H1 e1 E1 w fr
    cases c with
    | lst xs =>
      obtain ⟨rfl, vs, hv, rv⟩ := w
      obtain ⟨n0, n1, n2⟩ := fr p (by simp)
      simp only [stE_ok] at P
      have f1 : FreeP W G1 H1 σ ρ p := (E.v.noO n0).ext E.v e1
      have E1s := E.step e1 E1
      have h00 : H0 p = none := by
        cases q : H0 p with
        | none => rfl
        | some o =>
          have : tp0 ≠ some p := fun z => by
            rcases E.t with y | ⟨y, _⟩
            · rw [y] at n2; exact n2 z
            · rw [y] at z; cases z
          rw [E.e.h p o this q] at n0
          cases n0
      refine ⟨.inl ⟨rfl, vs, SqL.of hv⟩, p, vs, rfl, rfl, hv, ?_⟩
      have bk : ∀ {j : Nat} {c : OC} {a : Addr} {F : List Addr}, ρ[j]? = some (some (PV.ow c)) → σ[j]? = some (some (V.ref a)) → OwR W G1 (upd H1 p (.lst [])) a c F → OwR W G1 H1 a c F := fun {j c a F} h1 h2 w => by
        obtain ⟨F0, w0, _⟩ := E1.own h1 h2
        have w1 : OwR W G1 (upd H1 p (.lst [])) a c F0 := w0.keep (Same.refl _) fun q hq u hu => by
          rw [upd_ne (fun z => f1 _ _ _ _ h1 h2 w0 (by rw [← z]; exact hq))]; exact hu
        rw [w.uniq w1]
        exact w0
      exact P tp G1 _ σ e1.g ⟨E1.mutH n1 n2 f1, E1s.e.mut h00, fun j c a F h1 h2 w => E1s.o j c a F h1 h2 (bk h1 h2 w), E.t⟩
    | dK kvs => exact P.elim
    | tr k ts => exact P.elim
end
def rTruO (C : Addr) (sp : Sp) : V → Hp → (Bool → Hp → Prop) → Prop := fun x H Q => ∃ (a dx : Addr) (fs : List (Str × V)), x = .ref a ∧ H a = some (.ins C dx fs) ∧ sp [.ref a] H (fun v H' => ∃ n : Int, v = .int n ∧ 0 ≤ n ∧ n < 2 ^ 63 ∧ Q (n != 0) H') E0
theorem tr_lenO {X : Cx} {C : Addr} {ps : List Str} {sp : Sp} {k : Nat} (h : SpC X.prog X.w X.K X.mg X.base k C "__len__" ps sp) (h0 : PySem.W.findIn X.K (.ref C) "__bool__" = some none) (hgd : X.A.guards = some []) (hr : Room (k + 3) X.A) : TruR X (rTruO C sp) := by
  obtain ⟨f, fd, F, hb, hs, hf⟩ := h
  intro pins s σ H x v Q I rx h
  obtain ⟨a, dx, fs, rfl, ha, hsp⟩ := h
  cases rx
  obtain ⟨mA, J, _⟩ := ins_get I.hok ha
  obtain ⟨od, J, _⟩ := J.look
  refine truthy_lenK I.kIn J h0 hs hf ?_
  refine run_sp F hb hgd (Room.in1 (hr.mono (show k + 1 ≤ k + 3 by omega))) rfl I (show Vals [V.ref a] [Value.ref a] from .cons rfl .nil) hsp fun u s' hq => ?_
  obtain ⟨z, H', I', rz, n, ez, n0, n1, q⟩ := hq
  subst ez
  obtain ⟨t, rfl⟩ := rz
  exact ⟨⟨n0, n1⟩, n, _, rfl, H', I'.tok _, q⟩
section
variable {W : Wp} {Wx : L2.St → XK} {ta : TE} {δa : DE}
def dTruO (cls : Str) (F : Fn) (a : DE) : DT := fun ρ τ => (a ρ τ).bind fun x τ1 => match x with
  | .obj C fs => if C = cls then (F [.fr (.obj C fs)] τ1).nox.bind fun d τ2 => match d with
      | .int n => if 0 ≤ n ∧ n < 2 ^ 63 then .ok (n != 0) τ2 else .no
      | _ => .no
    else .no
  | _ => .no
theorem dt_truO {cls : Str} {C : Addr} {F : Fn} (hC : W.cm cls = C) (ha : Dn W Wx ta δa) : DnT W Wx (fun σ H Q => ta σ H fun x H' => rTruO C (spP W 1 F) x H' Q) (dTruO cls F δa) := fun tp G H σ ρ τ Q E P =>
  ha _ _ _ _ _ _ _ E (P.bind fun a τ1 x G1 H1 e1 E1 r1 P1 => by
    subst hC
    split at P1
    · rename_i C fs
      by_cases h : C = cls
      · subst h
        rw [if_pos rfl] at P1
        cases r1 with | obj hg rf =>
        refine ⟨_, _, _, rfl, E1.g _ _ hg, rfl, tp, G1, _, τ1, E1.g, .cons (show ArgR W tp G1 _ (.fr _) from Rp.obj hg rf) .nil, E1.t, ?_⟩
        revert P1
        cases F [.fr (.obj C fs)] τ1 with
        | ok d τ' =>
          intro P1 v G' H' e s t r
          cases d <;> first | exact P1.elim | skip
          rename_i n
          simp only [R.nox_ok, R.bind_ok] at P1
          by_cases hn : 0 ≤ n ∧ n < 2 ^ 63
          · rw [if_pos hn] at P1
            exact ⟨n, r.int_of, hn.1, hn.2, P1 _ G' H' e (E1.ext e s t) rfl⟩
          · rw [if_neg hn] at P1
            exact P1.elim
        | ex x τ' => exact fun P1 => P1.elim
        | no => exact fun P1 => P1.elim
      · rw [if_neg h] at P1
        exact P1.elim
    · exact P1.elim)
end
end Np

set_option Elab.async false
set_option linter.all false
set_option maxRecDepth 100000
set_option maxHeartbeats 4000000
namespace Np
open PySem PySem.Spec PyProof.Rows L2
/-! ### C(xs) where xs is changed later: the object keeps none of the cells that stood ahead -/
open Classical in
noncomputable def mns (G : Hp) (B : Addr → Prop) : Hp := fun p => if B p then none else G p
theorem mns_out {G : Hp} {B : Addr → Prop} {p : Addr} (h : ¬ B p) : mns G B p = G p := if_neg h
theorem mns_in {G : Hp} {B : Addr → Prop} {p : Addr} (h : B p) : mns G B p = none := if_pos h
theorem mns_same {G G' : Hp} {B : Addr → Prop} (s : Same G G') : Same (mns G B) (mns G' B) := fun p o h => by
  by_cases z : B p
  · rw [mns_in z] at h; cases h
  · rw [mns_out z] at h ⊢; exact s p o h
abbrev OldB (H0 : Hp) (B : Addr → Prop) : Prop := ∀ p, B p → H0 p ≠ none
def AvF (W : Wp) (H0 G : Hp) (vs : List (Str × V)) (fs : List (Str × DD)) : Prop := ∀ B, OldB H0 B → RpF W.K W.cm (mns G B) vs fs
def PsIS (W : Wp) (E : XK) (tp0 : Option Addr) (G0 H0 : Hp) (x : Addr) (D : Ends) : R DD → Prop
  | .ok d τ => ∀ tp' G' H' σ', Ext tp0 G0 H0 G' H' → Same G' H' → TapeO W G' H' tp' τ → (tp' = tp0 ∨ tp0 = none) → Rp W.K W.cm G' (.ref x) d → (∀ B, OldB H0 B → Rp W.K W.cm (mns G' B) (.ref x) d) → D.nx σ' H'
  | .ex e τ => ∀ d tp' G' H', Ext tp0 G0 H0 G' H' → Same G' H' → TapeO W G' H' tp' τ → (tp' = tp0 ∨ tp0 = none) → ExR W G' H' e d → E (.ref (W.cm e.cls)) d H'
  | .no => False
def DnIS (W : Wp) (E : XK) (cls : Str) (t : L2.TS) (δ : DI') : Prop := ∀ x dx tp0 G0 H0 tp G H σ ρ τ vs fs D, EnvI W cls x dx tp0 G0 H0 tp G H σ ρ τ vs fs → AvF W H0 G vs fs → PsIS W E tp0 G0 H0 x D (δ ρ τ fs) → t D σ H
def dISetV (f : Str) (e : DE) (r : DI') : DI' := fun ρ τ fs => (e ρ τ).bind fun d τ1 => if flatD d = true ∧ fs.length < 1000 then r ρ τ1 (putD f d fs) else .no
def dISetL (f : Str) (e : PEnv → TS' → R OC) (r : DI') : DI' := fun ρ τ fs => (e ρ τ).bind fun c τ1 => match c with
  | .lst ys => if ys.all flatD = true ∧ fs.length < 1000 then r ρ τ1 (putD f (.lst ys) fs) else .no
  | _ => .no
section
variable {W : Wp} {E : XK} {cls f : Str} {x dx : Addr} {tp0 tp : Option Addr} {G0 H0 G H : Hp} {σ : L2.St} {ρ : PEnv} {τ : TS'} {vs : List (Str × V)} {fs : List (Str × DD)} {te : TE} {δe : DE} {t : L2.TS} {δ : DI'}
theorem AvF.done (I : EnvI W cls x dx tp0 G0 H0 tp G H σ ρ τ vs fs) (av : AvF W H0 G vs fs) {D : Ends} (P : PsIS W E tp0 G0 H0 x D (dIEnd cls ρ τ fs)) : D.nx σ H := by
  have sg : Same G (upd G x (.ins (W.cm cls) dx vs)) := same_new I.g
  refine P tp (upd G x (.ins (W.cm cls) dx vs)) H σ ⟨I.e.e.g.trans sg, I.e.e.h, fun p n hp hg => ?_⟩ (fun p o hp => ?_) ?_ (I.e.t.imp id fun z => z.1) (.obj upd_same (I.r.mono sg)) (fun B hB => ?_)
  · have hne : p ≠ x := fun z => hp (by rw [z]; exact I.h0)
    rw [upd_ne hne]
    exact I.e.e.f p n hp hg
  · by_cases hne : p = x
    · subst hne
      rw [upd_same] at hp
      cases hp
      exact I.at'
    · rw [upd_ne hne] at hp
      exact I.e.v.g p o hp
  · have := I.e.v.t
    have nt := I.nt
    match tp, τ, this, nt with
    | none, none, _, _ => trivial
    | some a, some τ, ⟨g, c, s, h⟩, nt => exact ⟨by rw [upd_ne (fun z => nt (by rw [z]))]; exact g, c, sg _ _ s, h⟩
  · have nb : ¬ B x := fun z => hB x z I.h0
    exact .obj (by rw [mns_out nb]; exact upd_same) ((av B hB).mono (mns_same sg))
theorem PsIS.ev {D : Ends} {Q : VK} {k : DD → TS' → R DD} (I : EnvI W cls x dx tp0 G0 H0 tp G H σ ρ τ vs fs) (P : PsIS W E tp0 G0 H0 x D ((δe ρ τ).bind k))
    (h : ∀ d τ1 v G1 H1, Ext tp G H G1 H1 → EnvV W tp G1 H1 σ ρ τ1 → Rp W.K W.cm G1 v d → PsIS W E tp0 G0 H0 x D (k d τ1) → Q v H1) : Pg W (fun _ => E) (rE W) tp σ ρ G H Q (δe ρ τ) := by
  revert P
  cases δe ρ τ with
  | ok d τ1 => exact fun P v G1 H1 e1 E1 r1 => h d τ1 v G1 H1 e1 E1 r1 P
  | ex y τ1 => exact fun P d G1 H1 e1 E1 hx => P d tp G1 H1 (I.e.step e1 E1).e E1.g E1.t (I.e.t.imp id fun z => z.1) hx
  | no => exact fun P => P
theorem PsIS.evF {D : Ends} {Q : VK} {δF : PEnv → TS' → R OC} {k : OC → TS' → R DD} (I : EnvI W cls x dx tp0 G0 H0 tp G H σ ρ τ vs fs) (P : PsIS W E tp0 G0 H0 x D ((δF ρ τ).bind k))
    (h : ∀ c τ1 p F G1 H1, Ext tp G H G1 H1 → EnvV W tp G1 H1 σ ρ τ1 → OwR W G1 H1 p c F → (∀ q ∈ F, H q = none ∧ G1 q = none ∧ tp ≠ some q) → PsIS W E tp0 G0 H0 x D (k c τ1) → Q (.ref p) H1) : PgF W (fun _ => E) tp σ ρ G H Q (δF ρ τ) := by
  revert P
  cases δF ρ τ with
  | ok d τ1 => exact fun P p F G1 H1 e1 E1 w fr => h d τ1 p F G1 H1 e1 E1 w fr P
  | ex y τ1 => exact fun P d G1 H1 e1 E1 hx => P d tp G1 H1 (I.e.step e1 E1).e E1.g E1.t (I.e.t.imp id fun z => z.1) hx
  | no => exact fun P => P
theorem flats_any {ys : List DD} {us : List V} {G' : Hp} (h : ys.all flatD = true) (r : RpA W.K W.cm G us ys) : RpA W.K W.cm G' us ys := by
  induction ys generalizing us with
  | nil => cases r; exact .nil
  | cons y ys ih =>
    cases r with | cons a b =>
    rw [List.all_cons, Bool.and_eq_true] at h
    exact .cons (flatD_any h.1 a _) (ih h.2 b)
/-- a fresh list of flat things stays from now on -/
theorem fresh_keep {τ1 : TS'} {p : Addr} {ys : List DD} {F : List Addr} {G1 H1 : Hp} (I : EnvI W cls x dx tp0 G0 H0 tp G H σ ρ τ vs fs) (e1 : Ext tp G H G1 H1) (E1 : EnvV W tp G1 H1 σ ρ τ1) (w : OwR W G1 H1 p (.lst ys) F) (fr : ∀ q ∈ F, H q = none ∧ G1 q = none ∧ tp ≠ some q) :
    ∃ us, Ext tp G H (upd G1 p (.lst us)) H1 ∧ EnvV W tp (upd G1 p (.lst us)) H1 σ ρ τ1 ∧ RpA W.K W.cm G1 us ys ∧ H0 p = none ∧ G1 p = none := by
  obtain ⟨rfl, us, h, r⟩ := w
  obtain ⟨n, g, nt⟩ := fr p (by simp)
  refine ⟨us, ⟨e1.g.trans (same_new g), e1.h, fun q nq hq hg => ?_⟩, E1.freeze g h nt ((I.e.v.noO n).ext I.e.v e1), r, I.e.freeT n, g⟩
  rw [upd_ne (fun z => hq (by rw [z]; exact n))]
  exact e1.f q nq hq hg
theorem diS_setV (hC : Cls W.K (W.cm cls)) (hn : NoAttr W.K (W.cm cls) f) (he : Dn W (fun _ => E) te δe) (ht : DnIS W E cls t δ) : DnIS W E cls (tSeq (sFld W.K (tVar 0) te f) t) (dISetV f δe δ) := fun x dx tp0 G0 H0 tp G H σ ρ τ vs fs D I av P =>
  he _ _ _ _ _ _ _ I.e.v (P.ev I fun d τ1 v G1 H1 e1 E1 r1 P1 => by
    by_cases hl : flatD d = true ∧ fs.length < 1000
    · rw [if_pos hl] at P1
      obtain ⟨a1, a2, a3⟩ := I.set (f := f) e1 E1 r1
      exact ⟨_, a2, x, _, dx, vs, rfl, a1, hC, hn, by rw [RpF.len I.r]; exact hl.2, ht _ _ _ _ _ _ _ _ _ _ _ _ _ _ a3 (fun B hB => RpF.put (flatD_any hl.1 r1 _) ((av B hB).mono (mns_same e1.g))) P1⟩
    · rw [if_neg hl] at P1
      exact P1.elim)
theorem diS_lastV (hC : Cls W.K (W.cm cls)) (hn : NoAttr W.K (W.cm cls) f) (he : Dn W (fun _ => E) te δe) : DnIS W E cls (sFld W.K (tVar 0) te f) (dISetV f δe (dIEnd cls)) := fun x dx tp0 G0 H0 tp G H σ ρ τ vs fs D I av P =>
  he _ _ _ _ _ _ _ I.e.v (P.ev I fun d τ1 v G1 H1 e1 E1 r1 P1 => by
    by_cases hl : flatD d = true ∧ fs.length < 1000
    · rw [if_pos hl] at P1
      obtain ⟨a1, a2, a3⟩ := I.set (f := f) e1 E1 r1
      exact ⟨_, a2, x, _, dx, vs, rfl, a1, hC, hn, by rw [RpF.len I.r]; exact hl.2, AvF.done a3 (fun B hB => RpF.put (flatD_any hl.1 r1 _) ((av B hB).mono (mns_same e1.g))) P1⟩
    · rw [if_neg hl] at P1
      exact P1.elim)
theorem diS_setL {δF : PEnv → TS' → R OC} (hC : Cls W.K (W.cm cls)) (hn : NoAttr W.K (W.cm cls) f) (he : DnF W (fun _ => E) te δF) (ht : DnIS W E cls t δ) : DnIS W E cls (tSeq (sFld W.K (tVar 0) te f) t) (dISetL f δF δ) := fun x dx tp0 G0 H0 tp G H σ ρ τ vs fs D I av P =>
  he _ _ _ _ _ _ _ I.e.v (P.evF I fun c τ1 p F G1 H1 e1 E1 w fr P1 => by
    cases c with
    | lst ys =>
      by_cases hl : ys.all flatD = true ∧ fs.length < 1000
      · simp only [if_pos hl] at P1
        obtain ⟨us, e2, E2, r, n0, g⟩ := fresh_keep I e1 E1 w fr
        have rr : Rp W.K W.cm (upd G1 p (.lst us)) (.ref p) (.lst ys) := .lst upd_same (r.mono (same_new g))
        obtain ⟨a1, a2, a3⟩ := I.set (f := f) e2 E2 rr
        refine ⟨_, a2, x, _, dx, vs, rfl, a1, hC, hn, by rw [RpF.len I.r]; exact hl.2, ht _ _ _ _ _ _ _ _ _ _ _ _ _ _ a3 (fun B hB => RpF.put ?_ ((av B hB).mono (mns_same e2.g))) P1⟩
        have nb : ¬ B p := fun z => hB p z n0
        exact .lst (by rw [mns_out nb]; exact upd_same) (flats_any hl.1 r)
      · simp only [if_neg hl] at P1
        exact P1.elim
    | dK _ => exact P1.elim
    | tr _ _ => exact P1.elim)
end
def IPostS (W : Wp) (tp : Option Addr) (G H : Hp) (x : Addr) (Q : VK) (E : XK) : R DD → Prop
  | .ok d τ' => ∀ G' H', Ext tp G H G' H' → Same G' H' → TapeO W G' H' tp τ' → Rp W.K W.cm G' (.ref x) d → (∀ B, OldB H B → Rp W.K W.cm (mns G' B) (.ref x) d) → Q .non H'
  | .ex e τ' => ∀ d G' H', Ext tp G H G' H' → Same G' H' → TapeO W G' H' tp τ' → ExR W G' H' e d → E (.ref (W.cm e.cls)) d H'
  | .no => False
def spIS (W : Wp) (k : Nat) (cls : Str) (F : FnI) : Sp := fun vs H1 Q E => vs.length = k ∧ ∃ x dx H rest tp G as τ, vs = .ref x :: rest ∧ H x = none ∧ H dx = none ∧ dx ≠ x ∧ H1 = upd (upd H dx (.own x)) x (.ins (W.cm cls) dx []) ∧
  Same G H ∧ Paired (ArgR W tp G) rest as ∧ TapeO W G H tp τ ∧ IPostS W tp G H x Q E (F x as τ)
theorem spI_S {W : Wp} {k : Nat} {cls : Str} {F : FnI} {vs : List V} {H : Hp} {Q : VK} {E : XK} (h : spI W k cls F vs H Q E) : spIS W k cls F vs H Q E := by
  obtain ⟨l, x, dx, H0, rest, tp, G, as, τ, h1, h2, h3, h4, h5, h6, h7, h8, P⟩ := h
  refine ⟨l, x, dx, H0, rest, tp, G, as, τ, h1, h2, h3, h4, h5, h6, h7, h8, ?_⟩
  revert P
  cases F x as τ with
  | ok d τ' => exact fun P G' H' e s t r _ => P G' H' e s t r
  | ex y τ' => exact fun P => P
  | no => exact fun P => P
theorem MkC.weak {P : Program} {w : World} {K : PySem.W.Frag} {mg : Str → Option Value} {base : Heap} {CX : CXT} {k : Nat} {C : Addr} {ps : List Str} {W : Wp} {m : Nat} {cls : Str} {F : FnI} {n : Nat} {ks : List Str} {gV : List V → List V → List V}
    (h : MkC P w K mg base CX k C ps (spIS W m cls F) n ks gV) : MkC P w K mg base CX k C ps (spI W m cls F) n ks gV := by
  obtain ⟨f, fd, M, G, b⟩ := h
  exact ⟨f, fd, M, ⟨fun vs H Q E q => G.len vs H Q E (spI_S q), fun A outer s H args us vs Q E g r e bt v q => G.run A outer s H args us vs Q E g r e bt v (spI_S q)⟩, b⟩
section
variable {W : Wp} {E : XK} {cls : Str} {N : List Str} {k : Nat} {t u : L2.TS} {δ : DI'} {pre : DS} {vs : List V} {Q : VK} {H : Hp}
theorem fixIS {x : Addr} {G H0 : Hp} {tp : Option Addr} {τ : TS'} {r : R DD} (tt : TapeO W G H0 tp τ) (P : IPostS W tp G H0 x Q E (fixR τ r)) : PsIS W E tp G H0 x { nx := fun _ H' => Q .non H', rt := Q } r := by
  cases r with
  | ok d τ' => exact fun tp' G' H' σ' e s t q r av => P G' H' e s (fix_tape tt t q) r av
  | ex y τ' => exact fun d tp' G' H' e s t q hx => P d G' H' e s (fix_tape tt t q) hx
  | no => exact P
theorem body_okIS (hp : DnS W (fun _ => E) t pre) (ht : DnIS W E cls u δ) (h : spIS W k cls (bodyI N.length pre δ) vs H Q E) : tSeq t u { nx := fun _ H' => Q .non H', rt := Q } (L2.start N vs) H := by
  obtain ⟨_, x, dx, H0, rest, tp, G, as, τ, rfl, nx, nd, ne, rfl, s, a, tt, P⟩ := h
  obtain ⟨E1, e0⟩ := start_I (W := W) (cls := cls) (N := N) nx nd ne s a tt
  refine hp _ _ _ _ _ _ _ _ _ _ E1 ?_
  have nt : tp ≠ some x := tt.ne nx
  unfold bodyI at P
  revert P
  match pre (startP N.length (.fr (.raw x) :: as)) τ with
  | .ok (.nx ρ) τ' =>
    intro P tp' G' H' σ' s' E'
    dsimp only [bodyI2] at P
    split at P
    · rename_i y me
      by_cases hy : y = x
      · subst hy
        rw [if_pos rfl] at P
        exact ht _ _ _ _ _ _ _ _ _ _ _ _ _ _ (rebase nx nd ne s nt me E') (fun B hB => .nil) (fixIS tt P)
      · rw [if_neg hy] at P
        exact P.elim
    · exact P.elim
  | .ok (.xc y ρ) τ' => exact fun P d tp' G' H' σ' s' E' hx => P d G' H' (e0.trans E'.e) E'.v.g (fix_tape tt E'.v.t (E'.t.imp id fun z => z.1)) hx
  | .ok (.rt d) τ' => exact fun h => h.elim
  | .ok (.bk ρ) τ' => exact fun h => h.elim
  | .ok (.ro ρ) τ' => exact fun h => h.elim
  | .ok (.ct ρ) τ' => exact fun h => h.elim
  | .ex x τ' => exact fun h => h.elim
  | .no => exact fun h => h.elim
end
/-! ### made of an owned thing that is looked at -/
noncomputable def dMkB (i k n m : Nat) (F : FnI) (g : List PV → List PV → List PV) (a b : DPs) : DE := fun ρ τ => match ρ[i]? with
  | some (some (.ow c)) => match dMkN' k n m F g a b (bor i c ρ) none with
    | .ok d _ => .ok d τ
    | _ => .no
  | _ => .no
section
variable {W : Wp} {Wx : L2.St → XK} {tr tk : TA} {δr δk : DPs}
theorem after_new {tp : Option Addr} {G G1 G' H H' : Hp} {σ : L2.St} {ρ : PEnv} {τ : TS'} (E : EnvV W tp G H σ ρ τ) (s1 : Same G G1) (e : Ext none G1 H G' H') (g' : Same G' H') :
    Ext tp G H (mns G' fun p => H p ≠ none ∧ G p = none) H' ∧ EnvV W tp (mns G' fun p => H p ≠ none ∧ G p = none) H' σ ρ τ := by
  have sg : Same G (mns G' fun p => H p ≠ none ∧ G p = none) := fun p o h => by
    rw [mns_out (fun z => by rw [z.2] at h; cases h)]
    exact e.g p o (s1 p o h)
  have ee : Ext tp G H (mns G' fun p => H p ≠ none ∧ G p = none) H' := ⟨sg, fun p o _ => e.h p o (by simp), fun p _ hp hg => mns_in ⟨hp, hg⟩⟩
  refine ⟨ee, E.ext ee (fun p o h => ?_) ?_⟩
  · by_cases z : H p ≠ none ∧ G p = none
    · rw [mns_in z] at h; cases h
    · rw [mns_out z] at h; exact g' p o h
  · have := E.t
    match tp, τ, this with
    | none, none, _ => trivial
    | some a, some τ, ⟨g, c, s, h⟩ => exact ⟨mns_in ⟨by rw [h]; simp, g⟩, c, sg _ _ s, e.h a _ (by simp) h⟩
theorem dn_mkB {i k n m : Nat} {cls : Str} {C : Addr} {F : FnI} {dvs : List V} {dv : List PV} {ix : List Ix} (hC : W.cm cls = C) (hd : ∀ tp G, Paired (ArgR W tp G) dvs dv) (ha : DnPs W W0 tr δr) (hk : DnPs W W0 tk δk) :
    Dn W Wx (tMakeG C n m (spIS W k cls F) (pickL dvs (.a 0 :: ix.map shIx)) W0 tr tk) (dMkB i k n m F (pickL dv ix) δr δk) := fun tp G H σ ρ τ Q E P => by
  unfold dMkB at P
  split at P
  · rename_i c hi
    obtain ⟨a, F0, h1, w, _⟩ := E.ownS hi
    obtain ⟨s1, E1⟩ := E.hide.frzO (i := i) (c := c) (by rw [List.getElem?_map, hi]; rfl) h1 w
    subst hC
    have E1' : EnvV W none (upF G H F0) H σ (bor i c ρ) none := E1
    split at P
    · rename_i d τ1 hden
      unfold dMkN' at hden
      refine ha _ _ _ _ _ _ _ E1' ?_
      cases hr : δr (bor i c ρ) none with
      | no => rw [hr] at hden; cases hden
      | ex y t => rw [hr] at hden; cases hden
      | ok as ta =>
        rw [hr] at hden
        intro vs G2 H2 e2 E2 r2
        refine hk _ _ _ _ _ _ _ E2 ?_
        dsimp only [R.bind] at hden
        cases hr2 : δk (bor i c ρ) ta with
        | no => rw [hr2] at hden; cases hden
        | ex y t => rw [hr2] at hden; cases hden
        | ok bs tb =>
          rw [hr2] at hden
          intro zs G3 H3 e3 E3 r3
          dsimp only [R.bind] at hden
          by_cases h : as.length = n ∧ bs.length = m ∧ (pickL dv ix as bs).length + 1 = k
          · rw [if_pos h] at hden
            have r1' := args_mono r2 e3.g
            have hp := pick_rel (R := ArgR W none G3) (hd none G3) r1' r3 ix
            refine ⟨by rw [Paired.len r1']; exact h.1, by rw [Paired.len r3]; exact h.2.1, fun x dx nx nd ne => ?_⟩
            rw [pick_self]
            refine ⟨by rw [List.length_cons, Paired.len hp]; exact h.2.2, x, dx, H3, _, none, G3, _, tb, rfl, nx, nd, ne, rfl, E3.g, hp, E3.t, ?_⟩
            rcases allX_at (F := F) (as := pickL dv ix as bs) (τ := tb) x with z | z
            · rw [z] at hden
              cases hden
            · rw [z]
              cases hal : allX F (pickL dv ix as bs) tb with
              | no => rw [hal] at hden; cases hden
              | ex y t => rw [hal] at hden; cases hden
              | ok d' t' =>
                rw [hal] at hden
                cases hden
                intro G' H' e s t r av
                have et : Ext none (upF G H F0) H G' H' := (e2.trans e3).trans e
                obtain ⟨a1, a2⟩ := after_new E s1 et s
                refine ⟨rfl, P (.ref x) _ H' a1 a2 (av _ fun p hp => ?_)⟩
                cases q : H p with
                | none => exact absurd q hp.1
                | some o => rw [e3.h p o (by simp) (e2.h p o (by simp) q)]; simp
          · rw [if_neg h] at hden
            cases hden
    · exact P.elim
  · exact P.elim
end
end Np

set_option Elab.async false
set_option linter.all false
set_option maxRecDepth 100000
set_option maxHeartbeats 4000000
namespace Np
open PySem PySem.Spec PyProof.Rows L2
section
variable {W : Wp} {Wx : L2.St → XK} {te : TE} {δe : DE}
/-! ### x = xs.pop(k) -/
theorem RpA.erase {K : PySem.W.Frag} {cm : CM} {H : Hp} : ∀ (n : Nat) {v : List V} {d : List DD}, RpA K cm H v d → RpA K cm H (v.eraseIdx n) (d.eraseIdx n)
  | _, _, _, .nil => by simp; exact .nil
  | 0, _, _, .cons _ r => by simpa using r
  | n + 1, _, _, .cons a r => by
    rw [List.eraseIdx_cons_succ, List.eraseIdx_cons_succ]
    exact .cons a (RpA.erase n r)
def popD (xs : List DD) (n : Int) : Option (Nat × DD) := if -(2 ^ 63) ≤ n ∧ n < 2 ^ 63 then (seqIndex? n xs.length).bind fun k => (xs[k]?).map fun y => (k, y) else none
def dPopA (i j : Nat) (e : DE) : DS := fun ρ τ => match ρ[i]? with
  | some (some (.ow (.lst xs))) => stE (e ρ τ) ρ fun d τ1 => match d with
    | .int n => match popD xs n with
      | some (k, y) => .ok (.nx ((ρ.set i (some (.ow (.lst (xs.eraseIdx k))))).set j (some (.fr y)))) τ1
      | none => .no
    | _ => .no
  | _ => .no
theorem ds_popA {i j : Nat} (he : Dn W Wx te δe) : DnS W Wx (tAsg (tBM W.K "list" rPopAt (tVar i) (tCons te tNil)) (gName j)) (dPopA i j δe) := fun tp0 G0 H0 tp G H σ ρ τ D E P => by
  unfold dPopA at P
  split at P
  · rename_i xs hi
    obtain ⟨a, _, ha, rfl, vs, hv, rv⟩ := E.getO hi
    refine ⟨_, ha, .inl ⟨rfl, vs, SqL.of hv⟩, he _ _ _ _ _ _ _ E.v (P.bind E fun d τ1 y G1 H1 E1 e1 r1 P1 => ?_)⟩
    obtain ⟨b, _, hb, rfl, ws, hw, rw'⟩ := E1.getO hi
    rw [ha] at hb
    cases hb
    cases r1 <;> first | exact P1.elim | skip
    rename_i n
    dsimp only at P1
    cases hp : popD xs n with
    | none => rw [hp] at P1; exact P1.elim
    | some ky =>
      obtain ⟨k, x⟩ := ky
      rw [hp] at P1
      unfold popD at hp
      by_cases hb : -(2 ^ 63) ≤ n ∧ n < 2 ^ 63
      · rw [if_pos hb] at hp
        cases hk : seqIndex? n xs.length with
        | none => rw [hk] at hp; cases hp
        | some k' =>
          rw [hk] at hp
          cases hx : xs[k']? with
          | none => simp [hx] at hp
          | some x' =>
            simp only [Option.bind_some, hx, Option.map_some, Option.some.injEq, Prod.mk.injEq] at hp
            obtain ⟨rfl, rfl⟩ := hp
            obtain ⟨u, hu, ru⟩ := RpA.get rw' hx
            exact ⟨a, ws, n, k', u, rfl, rfl, hw, hb.1, hb.2, by rw [rw'.length]; exact hk, hu, P1 tp G1 _ _ (Same.refl _) ((E1.mut (c' := .lst (xs.eraseIdx k')) (o := .lst (ws.eraseIdx k')) hi ha ⟨rfl, ws, hw, rw'⟩ ⟨rfl, _, upd_same, RpA.erase k' rw'⟩).setF ru)⟩
      · rw [if_neg hb] at hp
        cases hp
  · exact P.elim
/-! ### x.split() -/
abbrev gWords := m0 fun z => if z.length + 2 ≤ sizeLine then some (.lst ((Txt.words z).map DD.str)) else none
theorem md_words : MtD W (fun x xs H Q => ∃ a, x = .str a ∧ xs = [] ∧ a.length + 2 ≤ sizeLine ∧ rNewStrs (Txt.words a) H Q) gWords := by
  intro G H z xs as c Q s ra e k
  obtain ⟨rfl, e⟩ := m0_eq e
  cases ra
  obtain ⟨h, rfl⟩ := ifs e
  exact ⟨z, rfl, rfl, h, fun p n => k _ _ _ (Ext.new n s) (same_both s) (rp_newL (s.free n) (RpA.strs _))⟩
end
end Np

set_option Elab.async false
set_option linter.all false
set_option maxRecDepth 100000
set_option maxHeartbeats 4000000
namespace Np
open PySem PySem.Spec PyProof.Rows L2
/-! ### how denotations are worked out, the head first -/
section
variable {α β : Type} {ρ : PEnv} {τ : TS'} {a b c : DE} {d x y : DD} {g g' : DD → DD → Option DD} {i j : Nat} {δ δ' : DS} {r : DA}
@[simp] theorem ev_sizeLine : sizeLine = 16777216 := sizeLine_eq
@[simp] theorem ev_C : dC d ρ τ = .ok d τ := id rfl
def eSlot : Option (Option PV) → TS' → R DD
  | some (some (.fr d)), τ => .ok d τ
  | _, _ => .no
@[simp] theorem eSlot_fr : eSlot (some (some (.fr d))) τ = .ok d τ := id rfl
@[simp] theorem ev_V : dV i ρ τ = eSlot ρ[i]? τ := by
  unfold dV eSlot
  generalize ρ[i]? = o
  rcases o with _ | _ | p
  · rfl
  · rfl
  · cases p <;> rfl
def eOp1 (r : R DD) (g : DD → DD → Option DD) (b : DE) (ρ : PEnv) : R DD := r.bind fun x τ1 => (b ρ τ1).bind fun y τ2 => R.of τ2 (g x y)
def eOp2 (r : R DD) (g : DD → DD → Option DD) (x : DD) : R DD := r.bind fun y τ2 => R.of τ2 (g x y)
@[simp] theorem ev_Op : dOp g a b ρ τ = eOp1 (a ρ τ) g b ρ := id rfl
@[simp] theorem eOp1_ok : eOp1 (.ok x τ) g b ρ = eOp2 (b ρ τ) g x := id rfl
@[simp] theorem eOp2_ok : eOp2 (.ok y τ) g x = R.of τ (g x y) := id rfl
def eUn (r : R α) (g : α → Option β) : R β := r.bind fun x τ1 => R.of τ1 (g x)
@[simp] theorem ev_Un {g : DD → Option DD} : dUn g a ρ τ = eUn (a ρ τ) g := id rfl
@[simp] theorem eUn_ok {x : α} {g : α → Option β} : eUn (.ok x τ) g = R.of τ (g x) := id rfl
@[simp] theorem ev_Nil : dNil ρ τ = .ok [] τ := id rfl
def eCons1 (r : R α) (f : PEnv → TS' → R (List α)) (ρ : PEnv) : R (List α) := r.bind fun x τ1 => (f ρ τ1).bind fun xs τ2 => .ok (x :: xs) τ2
def eCons2 (r : R (List α)) (x : α) : R (List α) := r.bind fun xs τ2 => .ok (x :: xs) τ2
@[simp] theorem ev_Cons : dCons a r ρ τ = eCons1 (a ρ τ) r ρ := id rfl
@[simp] theorem eCons1_ok {x : α} {f : PEnv → TS' → R (List α)} : eCons1 (.ok x τ) f ρ = eCons2 (f ρ τ) x := id rfl
@[simp] theorem eCons2_ok {x : α} {xs : List α} : eCons2 (.ok xs τ) x = .ok (x :: xs) τ := id rfl
@[simp] theorem ev_Call {g : List DD → Option DD} : dCall g r ρ τ = eUn (r ρ τ) g := id rfl
def eSeqD (r : R (List DD)) (f : List DD → DD) : R DD := r.bind fun x τ1 => if x.length ≤ sizeLine then .ok (f x) τ1 else .no
@[simp] theorem ev_Lst : dLst r ρ τ = eSeqD (r ρ τ) .lst := id rfl
@[simp] theorem ev_Tup : dTup r ρ τ = eSeqD (r ρ τ) .tup := id rfl
@[simp] theorem eSeqD_ok {xs : List DD} {f : List DD → DD} : eSeqD (.ok xs τ) f = if xs.length ≤ 16777216 then .ok (f xs) τ else .no := by
  show (if xs.length ≤ sizeLine then _ else _) = _
  rw [sizeLine_eq]
def eTest (r : R DD) : R Bool := r.bind fun x τ1 => match x with
  | .bl b => .ok b τ1
  | _ => .no
@[simp] theorem ev_Test : dTest a ρ τ = eTest (a ρ τ) := id rfl
@[simp] theorem eTest_ok {b : Bool} : eTest (.ok (.bl b) τ) = .ok b τ := id rfl
@[simp] theorem ev_Tru : dTru a ρ τ = eUn (a ρ τ) tru := id rfl
variable {A B : DT}
def eAnd (r : R Bool) (b : DT) (ρ : PEnv) : R Bool := r.bind fun x τ1 => if x = true then b ρ τ1 else .ok false τ1
def eOr (r : R Bool) (b : DT) (ρ : PEnv) : R Bool := r.bind fun x τ1 => if x = true then .ok true τ1 else b ρ τ1
def eNot (r : R Bool) : R Bool := r.bind fun x τ1 => .ok (!x) τ1
@[simp] theorem ev_And : dAnd A B ρ τ = eAnd (A ρ τ) B ρ := id rfl
@[simp] theorem ev_Or : dOr A B ρ τ = eOr (A ρ τ) B ρ := id rfl
@[simp] theorem ev_Not : dNot A ρ τ = eNot (A ρ τ) := id rfl
@[simp] theorem eAnd_t : eAnd (.ok true τ) B ρ = B ρ τ := id rfl
@[simp] theorem eAnd_f : eAnd (.ok false τ) B ρ = .ok false τ := id rfl
@[simp] theorem eOr_t : eOr (.ok true τ) B ρ = .ok true τ := id rfl
@[simp] theorem eOr_f : eOr (.ok false τ) B ρ = B ρ τ := id rfl
@[simp] theorem eNot_ok {b : Bool} : eNot (.ok b τ) = .ok (!b) τ := id rfl
def eIf (r : R Bool) (b c : DE) (ρ : PEnv) : R DD := r.bind fun x τ1 => if x = true then b ρ τ1 else c ρ τ1
@[simp] theorem ev_If : dIf A b c ρ τ = eIf (A ρ τ) b c ρ := id rfl
@[simp] theorem eIf_t : eIf (.ok true τ) b c ρ = b ρ τ := id rfl
@[simp] theorem eIf_f : eIf (.ok false τ) b c ρ = c ρ τ := id rfl
def eAndV (r : R DD) (b : DE) (ρ : PEnv) : R DD := r.bind fun x τ1 => match x with
  | .bl true => b ρ τ1
  | .bl false => .ok (.bl false) τ1
  | _ => .no
def eOrV (r : R DD) (b : DE) (ρ : PEnv) : R DD := r.bind fun x τ1 => match x with
  | .bl true => .ok (.bl true) τ1
  | .bl false => b ρ τ1
  | _ => .no
def eNotV (r : R DD) : R DD := r.bind fun x τ1 => match x with
  | .bl b => .ok (.bl (!b)) τ1
  | _ => .no
@[simp] theorem ev_AndV : dAndV a b ρ τ = eAndV (a ρ τ) b ρ := id rfl
@[simp] theorem ev_OrV : dOrV a b ρ τ = eOrV (a ρ τ) b ρ := id rfl
@[simp] theorem ev_NotV : dNotV a ρ τ = eNotV (a ρ τ) := id rfl
@[simp] theorem eAndV_t : eAndV (.ok (.bl true) τ) b ρ = b ρ τ := id rfl
@[simp] theorem eAndV_f : eAndV (.ok (.bl false) τ) b ρ = .ok (.bl false) τ := id rfl
@[simp] theorem eOrV_t : eOrV (.ok (.bl true) τ) b ρ = .ok (.bl true) τ := id rfl
@[simp] theorem eOrV_f : eOrV (.ok (.bl false) τ) b ρ = b ρ τ := id rfl
@[simp] theorem eNotV_ok {k : Bool} : eNotV (.ok (.bl k) τ) = .ok (.bl (!k)) τ := id rfl
def eCh1 (r : R DD) (g g' : DD → DD → Option DD) (b c : DE) (ρ : PEnv) : R DD := r.bind fun x τ1 => (b ρ τ1).bind fun y τ2 => (R.of τ2 (g x y)).bind fun z τ3 => match z with
  | .bl true => (c ρ τ3).bind fun w τ4 => R.of τ4 (g' y w)
  | .bl false => .ok (.bl false) τ3
  | _ => .no
def eCh2 (r : R DD) (g g' : DD → DD → Option DD) (x : DD) (c : DE) (ρ : PEnv) : R DD := r.bind fun y τ2 => (R.of τ2 (g x y)).bind fun z τ3 => match z with
  | .bl true => (c ρ τ3).bind fun w τ4 => R.of τ4 (g' y w)
  | .bl false => .ok (.bl false) τ3
  | _ => .no
def eCh3 (z : Option DD) (g' : DD → DD → Option DD) (y : DD) (c : DE) (ρ : PEnv) (τ : TS') : R DD := (R.of τ z).bind fun z τ3 => match z with
  | .bl true => (c ρ τ3).bind fun w τ4 => R.of τ4 (g' y w)
  | .bl false => .ok (.bl false) τ3
  | _ => .no
@[simp] theorem ev_Chain : dChain g g' a b c ρ τ = eCh1 (a ρ τ) g g' b c ρ := id rfl
@[simp] theorem eCh1_ok : eCh1 (.ok x τ) g g' b c ρ = eCh2 (b ρ τ) g g' x c ρ := id rfl
@[simp] theorem eCh2_ok : eCh2 (.ok y τ) g g' x c ρ = eCh3 (g x y) g' y c ρ τ := id rfl
@[simp] theorem eCh3_t : eCh3 (some (.bl true)) g' y c ρ τ = eOp2 (c ρ τ) g' y := id rfl
@[simp] theorem eCh3_f : eCh3 (some (.bl false)) g' y c ρ τ = .ok (.bl false) τ := id rfl
/-! operators on data -/
@[simp] theorem oInt_ii {f : Int → Int → Option DD} {m n : Int} : oInt f (.int m) (.int n) = f m n := id rfl
@[simp] theorem oStr_ss {f : Str → Str → Option DD} {m n : Str} : oStr f (.str m) (.str n) = f m n := id rfl
@[simp] theorem gIxL_eq {ds : List DD} {n : Int} : gIxL (.lst ds) (.int n) = atI ds n := id rfl
@[simp] theorem gIxT_eq {ds : List DD} {n : Int} : gIxT (.tup ds) (.int n) = atI ds n := id rfl
@[simp] theorem gIxS_eq {z : Str} {n : Int} : gIxS (.str z) (.int n) = if z.length ≤ sizeLine then (atI z.cps.toList n).map fun c => .str ⟨#[c]⟩ else none := id rfl
@[simp] theorem gCat_eq {xs ys : List DD} : gCat (.lst xs) (.lst ys) = if xs.length + ys.length ≤ sizeLine then some (.lst (xs ++ ys)) else none := id rfl
@[simp] theorem gCatT_eq {xs ys : List DD} : gCatT (.tup xs) (.tup ys) = if xs.length + ys.length ≤ sizeLine then some (.tup (xs ++ ys)) else none := id rfl
@[simp] theorem gRep_eq {xs : List DD} {n : Int} : gRep (.lst xs) (.int n) = if -(2 ^ 63) ≤ n ∧ n < 2 ^ 63 ∧ xs.length * n.toNat ≤ sizeLine then some (.lst (List.replicate n.toNat xs).flatten) else none := id rfl
@[simp] theorem gMulS_eq {z : Str} {n : Int} : gMulS (.str z) (.int n) = if MulOk z n then some (.str (Txt.mul z n)) else none := id rfl
@[simp] theorem gEq_ii {k : Bool} {m n : Int} : gEq k (.int m) (.int n) = some (.bl (if k then !decide (m = n) else decide (m = n))) := id rfl
@[simp] theorem gEq_ss {k : Bool} {m n : Str} : gEq k (.str m) (.str n) = some (.bl (if k then !decide (m = n) else decide (m = n))) := id rfl
@[simp] theorem gEq_bb {k m n : Bool} : gEq k (.bl m) (.bl n) = some (.bl (if k then !decide (m = n) else decide (m = n))) := id rfl
@[simp] theorem gIsN_n {k : Bool} : gIsN k .non .non = some (.bl (!k)) := id rfl
@[simp] theorem gIsN_i {k : Bool} {m : Int} : gIsN k (.int m) .non = some (.bl k) := id rfl
@[simp] theorem gIsN_s {k : Bool} {m : Str} : gIsN k (.str m) .non = some (.bl k) := id rfl
@[simp] theorem gIsN_b {k m : Bool} : gIsN k (.bl m) .non = some (.bl k) := id rfl
@[simp] theorem gIsN_l {k : Bool} {m : List DD} : gIsN k (.lst m) .non = some (.bl k) := id rfl
@[simp] theorem gIsN_t {k : Bool} {m : List DD} : gIsN k (.tup m) .non = some (.bl k) := id rfl
@[simp] theorem gNeg_eq {n : Int} : gNeg (.int n) = some (.int (-n)) := id rfl
@[simp] theorem c1_one {f : DD → Option DD} : c1 f [d] = f d := id rfl
@[simp] theorem c2_two {f : DD → DD → Option DD} : c2 f [x, y] = f x y := id rfl
@[simp] theorem gLenS_eq {z : Str} : gLenS (.str z) = if z.length ≤ sizeLine then some (.int z.length) else none := id rfl
@[simp] theorem gLenL_l {ds : List DD} : gLenL (.lst ds) = some (.int ds.length) := id rfl
@[simp] theorem gLenL_t {ds : List DD} : gLenL (.tup ds) = some (.int ds.length) := id rfl
@[simp] theorem gAbs_eq {n : Int} : gAbs (.int n) = some (.int (if n < 0 then -n else n)) := id rfl
@[simp] theorem gStrI_eq {n : Int} : gStrI (.int n) = if n.natAbs.log2 < 1920 then some (.str (toString n)) else none := id rfl
@[simp] theorem gIntS_eq {z : Str} : gIntS (.str z) = if z.length ≤ 640 then (PySem.intText? z).map .int else none := id rfl
@[simp] theorem gInt1_i {n : Int} : gInt1 (.int n) = some (.int n) := id rfl
@[simp] theorem gInt1_b {n : Bool} : gInt1 (.bl n) = some (.int (if n then 1 else 0)) := id rfl
@[simp] theorem gSum_eq {ds : List DD} : gSum (.lst ds) = (ints? ds).map fun ns => .int ns.sum := id rfl
@[simp] theorem gAllL_eq {ds : List DD} : gAllL (.lst ds) = (bls? ds).map fun bs => .bl (bs.all id) := id rfl
@[simp] theorem gAnyL_eq {ds : List DD} : gAnyL (.lst ds) = (bls? ds).map fun bs => .bl (bs.any id) := id rfl
@[simp] theorem gList_l {ds : List DD} : gList (.lst ds) = some (.lst ds) := id rfl
@[simp] theorem gList_t {ds : List DD} : gList (.tup ds) = some (.lst ds) := id rfl
@[simp] theorem gTuple_l {ds : List DD} : gTuple (.lst ds) = some (.tup ds) := id rfl
@[simp] theorem gTuple_t {ds : List DD} : gTuple (.tup ds) = some (.tup ds) := id rfl
@[simp] theorem gListS_eq {z : Str} : gListS (.str z) = if z.length ≤ sizeLine then some (.lst (signs z)) else none := id rfl
@[simp] theorem gIsi_i {T : String} {n : Int} : gIsi T (.int n) = some (.bl (isT T "int")) := id rfl
@[simp] theorem gIsi_b {T : String} {n : Bool} : gIsi T (.bl n) = some (.bl (isT T "bool")) := id rfl
@[simp] theorem gIsi_s {T : String} {n : Str} : gIsi T (.str n) = some (.bl (isT T "str")) := id rfl
@[simp] theorem gIsi_n {T : String} : gIsi T .non = some (.bl (isT T "NoneType")) := id rfl
@[simp] theorem gIsi_l {T : String} {n : List DD} : gIsi T (.lst n) = some (.bl (isT T "list")) := id rfl
@[simp] theorem gIsi_t {T : String} {n : List DD} : gIsi T (.tup n) = some (.bl (isT T "tuple")) := id rfl
@[simp] theorem gIsi2_i {T U : String} {n : Int} : gIsi2 T U (.int n) = some (.bl (isT T "int" || isT U "int")) := id rfl
@[simp] theorem gIsi2_b {T U : String} {n : Bool} : gIsi2 T U (.bl n) = some (.bl (isT T "bool" || isT U "bool")) := id rfl
@[simp] theorem gIsi2_s {T U : String} {n : Str} : gIsi2 T U (.str n) = some (.bl (isT T "str" || isT U "str")) := id rfl
@[simp] theorem gIsi2_n {T U : String} : gIsi2 T U .non = some (.bl (isT T "NoneType" || isT U "NoneType")) := id rfl
@[simp] theorem gIsi2_l {T U : String} {n : List DD} : gIsi2 T U (.lst n) = some (.bl (isT T "list" || isT U "list")) := id rfl
@[simp] theorem gIsi2_t {T U : String} {n : List DD} : gIsi2 T U (.tup n) = some (.bl (isT T "tuple" || isT U "tuple")) := id rfl
@[simp] theorem tru_n : tru .non = some false := id rfl
@[simp] theorem tru_b {b : Bool} : tru (.bl b) = some b := id rfl
@[simp] theorem tru_i {b : Int} : tru (.int b) = some (b != 0) := id rfl
@[simp] theorem tru_l {b : List DD} : tru (.lst b) = some (!b.isEmpty) := id rfl
@[simp] theorem tru_t {b : List DD} : tru (.tup b) = some (!b.isEmpty) := id rfl
/-! slices -/
variable {l h : DO}
@[simp] theorem ev_NoP : dNoP ρ τ = .ok none τ := id rfl
def ePart (r : R DD) : R (Option Int) := r.bind fun x τ1 => match x with
  | .int i => .ok (some i) τ1
  | _ => .no
@[simp] theorem ev_Part : dPart a ρ τ = ePart (a ρ τ) := id rfl
@[simp] theorem ePart_ok {n : Int} : ePart (.ok (.int n) τ) = .ok (some n) τ := id rfl
variable {G : DD → Option Int → Option Int → Option DD}
def eSl1 (r : R DD) (g : DD → Option Int → Option Int → Option DD) (l h : DO) (ρ : PEnv) : R DD := r.bind fun x τ1 => (l ρ τ1).bind fun lo τ2 => (h ρ τ2).bind fun hi τ3 => R.of τ3 (g x lo hi)
def eSl2 (r : R (Option Int)) (g : DD → Option Int → Option Int → Option DD) (x : DD) (h : DO) (ρ : PEnv) : R DD := r.bind fun lo τ2 => (h ρ τ2).bind fun hi τ3 => R.of τ3 (g x lo hi)
def eSl3 (r : R (Option Int)) (g : DD → Option Int → Option Int → Option DD) (x : DD) (lo : Option Int) : R DD := r.bind fun hi τ3 => R.of τ3 (g x lo hi)
@[simp] theorem ev_Sl : dSl G a l h ρ τ = eSl1 (a ρ τ) G l h ρ := id rfl
@[simp] theorem eSl1_ok : eSl1 (.ok x τ) G l h ρ = eSl2 (l ρ τ) G x h ρ := id rfl
@[simp] theorem eSl2_ok {lo : Option Int} : eSl2 (.ok lo τ) G x h ρ = eSl3 (h ρ τ) G x lo := id rfl
@[simp] theorem eSl3_ok {lo hi : Option Int} : eSl3 (.ok hi τ) G x lo = R.of τ (G x lo hi) := id rfl
@[simp] theorem gSlL_eq {ds : List DD} {lo hi : Option Int} : gSlL (.lst ds) lo hi = some (.lst (cutL ds lo hi)) := id rfl
@[simp] theorem gSlS_eq {z : Str} {lo hi : Option Int} : gSlS (.str z) lo hi = if z.length ≤ sizeLine then some (.str (cutS z lo hi)) else none := id rfl
@[simp] theorem gRevL_eq {ds : List DD} : gRevL (.lst ds) = some (.lst ds.reverse) := id rfl
@[simp] theorem gRevS_eq {z : Str} : gRevS (.str z) = if z.length ≤ sizeLine then some (.str (revS z)) else none := id rfl
/-! methods -/
variable {M : Str → List DD → Option DD}
def eM0 (r : R DD) (g : Str → List DD → Option DD) : R DD := r.bind fun x τ1 => match x with
  | .str z => R.of τ1 (g z [])
  | _ => .no
def eM1 (r : R DD) (g : Str → List DD → Option DD) (a : DE) (ρ : PEnv) : R DD := r.bind fun x τ1 => match x with
  | .str z => (a ρ τ1).bind fun y τ2 => R.of τ2 (g z [y])
  | _ => .no
def eM2 (r : R DD) (g : Str → List DD → Option DD) (z : Str) : R DD := r.bind fun y τ2 => R.of τ2 (g z [y])
def eMs (r : R DD) (g : Str → List DD → Option DD) (a : DA) (ρ : PEnv) : R DD := r.bind fun x τ1 => match x with
  | .str z => (a ρ τ1).bind fun y τ2 => R.of τ2 (g z y)
  | _ => .no
def eMs2 (r : R (List DD)) (g : Str → List DD → Option DD) (z : Str) : R DD := r.bind fun y τ2 => R.of τ2 (g z y)
@[simp] theorem ev_M0 : dM0 M a ρ τ = eM0 (a ρ τ) M := id rfl
@[simp] theorem ev_M1 : dM1 M a b ρ τ = eM1 (a ρ τ) M b ρ := id rfl
@[simp] theorem ev_Ms : dMs M a r ρ τ = eMs (a ρ τ) M r ρ := id rfl
@[simp] theorem eM0_ok {z : Str} : eM0 (.ok (.str z) τ) M = R.of τ (M z []) := id rfl
@[simp] theorem eM1_ok {z : Str} : eM1 (.ok (.str z) τ) M a ρ = eM2 (a ρ τ) M z := id rfl
@[simp] theorem eM2_ok {z : Str} : eM2 (.ok x τ) M z = R.of τ (M z [x]) := id rfl
@[simp] theorem eMs_ok {z : Str} : eMs (.ok (.str z) τ) M r ρ = eMs2 (r ρ τ) M z := id rfl
@[simp] theorem eMs2_ok {z : Str} {xs : List DD} : eMs2 (.ok xs τ) M z = R.of τ (M z xs) := id rfl
@[simp] theorem m0_ev {f : Str → Option DD} {z : Str} : m0 f z [] = f z := id rfl
@[simp] theorem m1S_ev {f : Str → Str → Option DD} {z w : Str} : m1S f z [.str w] = f z w := id rfl
@[simp] theorem m1I_ev {f : Str → Int → Option DD} {z : Str} {w : Int} : m1I f z [.int w] = f z w := id rfl
@[simp] theorem gFmt_s {z : Str} : gFmt (.str z) = if z.length ≤ sizeLine then some (.str z) else none := id rfl
@[simp] theorem gFmt_i {n : Int} : gFmt (.int n) = if n.natAbs.log2 < 1920 then some (.str (toString n)) else none := id rfl
def eJs (r : R DD) (acc : Str) (ds : List DE) (ρ : PEnv) : R DD := r.bind fun x τ1 => match x with
  | .str y => if (acc ++ y).length ≤ sizeLine then dJs ds (acc ++ y) ρ τ1 else .no
  | _ => .no
variable {ds : List DE} {acc : Str}
@[simp] theorem ev_Js0 : dJs [] acc ρ τ = .ok (.str acc) τ := id rfl
@[simp] theorem ev_Js : dJs (a :: ds) acc ρ τ = eJs (a ρ τ) acc ds ρ := id rfl
theorem eJs_ok {y : Str} (h : (acc ++ y).length ≤ 16777216) : eJs (.ok (.str y) τ) acc ds ρ = dJs ds (acc ++ y) ρ τ := by
  show (if (acc ++ y).length ≤ sizeLine then _ else _) = _
  rw [sizeLine_eq, if_pos h]
/-! walks -/
def eIL (r : R DD) (f : DD → Option (List DD)) : R (List DD) := r.bind fun x τ1 => R.of τ1 (f x)
def lst? : DD → Option (List DD)
  | .lst ds => some ds
  | _ => none
def tup? : DD → Option (List DD)
  | .tup ds => some ds
  | _ => none
def sgn? : DD → Option (List DD)
  | .str z => some (signs z)
  | _ => none
@[simp] theorem lst?_eq {ds : List DD} : lst? (.lst ds) = some ds := id rfl
@[simp] theorem tup?_eq {ds : List DD} : tup? (.tup ds) = some ds := id rfl
@[simp] theorem sgn?_eq {z : Str} : sgn? (.str z) = some (signs z) := id rfl
@[simp] theorem ev_IList : dIList a ρ τ = eUn (a ρ τ) lst? := by
  unfold dIList eUn
  congr 1
  funext x τ1
  cases x <;> rfl
@[simp] theorem ev_ITup : dITup a ρ τ = eUn (a ρ τ) tup? := by
  unfold dITup eUn
  congr 1
  funext x τ1
  cases x <;> rfl
@[simp] theorem ev_IStr : dIStr a ρ τ = eUn (a ρ τ) sgn? := by
  unfold dIStr eUn
  congr 1
  funext x τ1
  cases x <;> rfl
def rg1 : List DD → Option (List DD)
  | [.int j] => if -(2 ^ 62) ≤ j ∧ j < 2 ^ 62 then some (rangeD 0 j.toNat) else none
  | _ => none
def rg2 : List DD → Option (List DD)
  | [.int i, .int j] => if -(2 ^ 62) ≤ i ∧ i < 2 ^ 62 ∧ -(2 ^ 62) ≤ j ∧ j < 2 ^ 62 then some (rangeD i (j - i).toNat) else none
  | _ => none
@[simp] theorem rg1_eq {n : Int} : rg1 [.int n] = if -(2 ^ 62) ≤ n ∧ n < 2 ^ 62 then some (rangeD 0 n.toNat) else none := id rfl
@[simp] theorem rg2_eq {m n : Int} : rg2 [.int m, .int n] = if -(2 ^ 62) ≤ m ∧ m < 2 ^ 62 ∧ -(2 ^ 62) ≤ n ∧ n < 2 ^ 62 then some (rangeD m (n - m).toNat) else none := id rfl
@[simp] theorem ev_IR1 : dIR1 r ρ τ = eUn (r ρ τ) rg1 := by
  unfold dIR1 eUn
  congr 1
  funext x τ1
  unfold rg1
  rcases x with _ | ⟨d, _ | ⟨e, x⟩⟩
  · rfl
  · cases d <;> first | rfl | (dsimp only [R.of]; split <;> rfl)
  · cases d <;> rfl
@[simp] theorem ev_IR2 : dIR2 r ρ τ = eUn (r ρ τ) rg2 := by
  unfold dIR2 eUn
  congr 1
  funext x τ1
  unfold rg2
  rcases x with _ | ⟨d, _ | ⟨e, _ | ⟨f, x⟩⟩⟩
  · rfl
  · cases d <;> rfl
  · cases d <;> cases e <;> first | rfl | (dsimp only [R.of]; split <;> rfl)
  · cases d <;> cases e <;> rfl
def en? : List DD → Option (List DD)
  | [.lst ds] => some (enumD ds)
  | _ => none
def zp? : List DD → Option (List DD)
  | [.lst ds, .lst es] => some (zipD ds es)
  | _ => none
def rv? : List DD → Option (List DD)
  | [.lst ds] => some ds.reverse
  | _ => none
@[simp] theorem en?_eq {ds : List DD} : en? [.lst ds] = some (enumD ds) := id rfl
@[simp] theorem zp?_eq {ds es : List DD} : zp? [.lst ds, .lst es] = some (zipD ds es) := id rfl
@[simp] theorem rv?_eq {ds : List DD} : rv? [.lst ds] = some ds.reverse := id rfl
@[simp] theorem ev_IEnum : dIEnum r ρ τ = eUn (r ρ τ) en? := by
  unfold dIEnum eUn
  congr 1
  funext x τ1
  unfold en?
  rcases x with _ | ⟨d, _ | ⟨e, x⟩⟩
  · rfl
  · cases d <;> first | rfl | (dsimp only [R.of]; split <;> rfl)
  · cases d <;> rfl
@[simp] theorem ev_IZip : dIZip r ρ τ = eUn (r ρ τ) zp? := by
  unfold dIZip eUn
  congr 1
  funext x τ1
  unfold zp?
  rcases x with _ | ⟨d, _ | ⟨e, _ | ⟨f, x⟩⟩⟩
  · rfl
  · cases d <;> rfl
  · cases d <;> cases e <;> first | rfl | (dsimp only [R.of]; split <;> rfl)
  · cases d <;> cases e <;> rfl
@[simp] theorem ev_IRev : dIRev r ρ τ = eUn (r ρ τ) rv? := by
  unfold dIRev eUn
  congr 1
  funext x τ1
  unfold rv?
  rcases x with _ | ⟨d, _ | ⟨e, x⟩⟩
  · rfl
  · cases d <;> first | rfl | (dsimp only [R.of]; split <;> rfl)
  · cases d <;> rfl
/-! comprehensions -/
variable {I : DI} {t : Tg} {vs : List Nat}
def eLc1 (r : R (List DD)) (t : Tg) (c : DT) (e : DE) (ρ : PEnv) : R (List DD) := r.bind fun ds τ1 => if ds.length ≤ sizeLine then lcL t c e ρ ds τ1 else .no
def eMap (r : R α) (f : α → β) : R β := r.bind fun x τ1 => .ok (f x) τ1
@[simp] theorem eMap_ok {x : α} {f : α → β} : eMap (.ok x τ) f = .ok (f x) τ := id rfl
@[simp] theorem ev_Lc : dLc I t A a vs ρ τ = eMap (eLc1 (I ρ τ) t A a (wipeP ρ vs)) .lst := by
  unfold dLc eMap eLc1
  cases I ρ τ with
  | ok ds τ1 => simp only [R.bind_ok]; split <;> rfl
  | ex x τ1 => rfl
  | no => rfl
@[simp] theorem ev_LcF : dLcF I t A a vs ρ τ = eMap (eLc1 (I ρ τ) t A a (wipeP ρ vs)) .lst := by
  unfold dLcF eMap eLc1
  cases I ρ τ with
  | ok ds τ1 => simp only [R.bind_ok]; split <;> rfl
  | ex x τ1 => rfl
  | no => rfl
@[simp] theorem eLc1_ok {ds : List DD} : eLc1 (.ok ds τ) t A a ρ = if ds.length ≤ 16777216 then lcL t A a ρ ds τ else .no := by
  show (if ds.length ≤ sizeLine then _ else _) = _
  rw [sizeLine_eq]
@[simp] theorem wipeP_nil : wipeP ρ [] = ρ := id rfl
@[simp] theorem wipeP_cons : wipeP ρ (i :: vs) = (wipeP ρ vs).set i none := id rfl
@[simp] theorem ev_Yes : dYes ρ τ = .ok true τ := id rfl
/-- a comprehension where nothing is drawn -/
theorem lcL_map {f : DD → DD} : ∀ {ds : List DD}, (∀ d ∈ ds, ∃ ρ1, tgF t d ρ = some ρ1 ∧ a ρ1 τ = .ok (f d) τ) → lcL t dYes a ρ ds τ = .ok (ds.map f) τ
  | [], _ => rfl
  | d :: ds, h => by
    obtain ⟨ρ1, h1, h2⟩ := h d List.mem_cons_self
    rw [lcL, h1]
    simp only [ev_Yes, R.nox_ok, R.bind_ok, if_true, h2]
    rw [lcL_map fun d hd => h d (List.mem_cons_of_mem _ hd)] <;> rfl
theorem lcL_fmap {p : DD → Bool} {f : DD → DD} : ∀ {ds : List DD}, (∀ d ∈ ds, ∃ ρ1, tgF t d ρ = some ρ1 ∧ A ρ1 τ = .ok (p d) τ ∧ (p d = true → a ρ1 τ = .ok (f d) τ)) → lcL t A a ρ ds τ = .ok ((ds.filter p).map f) τ
  | [], _ => rfl
  | d :: ds, h => by
    obtain ⟨ρ1, h1, h2, h3⟩ := h d List.mem_cons_self
    have ih := lcL_fmap (p := p) (f := f) (ds := ds) fun d hd => h d (List.mem_cons_of_mem _ hd)
    rw [lcL, h1]
    simp only [h2, R.nox_ok, R.bind_ok]
    cases hp : p d with
    | false => rw [List.filter_cons_of_neg (by rw [hp]; decide)]; simp [ih]
    | true => rw [List.filter_cons_of_pos hp]; simp [h3 hp, ih]
/-! targets -/
@[simp] theorem tgF_nm : tgF (.nm i) d ρ = some (ρ.set i (some (.fr d))) := by rw [tgF]
@[simp] theorem tgF_tp {ts : List Tg} {ds : List DD} : tgF (.tp ts) (.tup ds) ρ = tgFs ts ds ρ := by rw [tgF]
@[simp] theorem tgFs_nil : tgFs [] [] ρ = some ρ := by rw [tgFs]
@[simp] theorem tgFs_cons {ts : List Tg} {ds : List DD} : tgFs (t :: ts) (d :: ds) ρ = (tgF t d ρ).bind (tgFs ts ds) := by
  rw [tgFs]
  cases tgF t d ρ <;> rfl
/-! statements -/
@[simp] theorem ev_Nx : dNx ρ τ = .ok (.nx ρ) τ := id rfl
@[simp] theorem ev_Bk : dBk ρ τ = .ok (.bk ρ) τ := id rfl
@[simp] theorem ev_Ct : dCt ρ τ = .ok (.ct ρ) τ := id rfl
@[simp] theorem ev_RetN : dRetN ρ τ = .ok (.rt .non) τ := id rfl
def eSeq (r : R Ct) (b : DS) : R Ct := match r with
  | .ok (.nx ρ1) τ1 => b ρ1 τ1
  | r => r
@[simp] theorem ev_Seq : dSeq δ δ' ρ τ = eSeq (δ ρ τ) δ' := id rfl
@[simp] theorem eSeq_nx : eSeq (.ok (.nx ρ) τ) δ = δ ρ τ := id rfl
@[simp] theorem eSeq_rt : eSeq (.ok (.rt d) τ) δ = .ok (.rt d) τ := id rfl
@[simp] theorem eSeq_bk : eSeq (.ok (.bk ρ) τ) δ = .ok (.bk ρ) τ := id rfl
@[simp] theorem eSeq_ct : eSeq (.ok (.ct ρ) τ) δ = .ok (.ct ρ) τ := id rfl
@[simp] theorem eSeq_xc {x : Ex} : eSeq (.ok (.xc x ρ) τ) δ = .ok (.xc x ρ) τ := id rfl
def eSet (r : R DD) (i : Nat) (ρ : PEnv) : R Ct := stE r ρ fun d τ1 => .ok (.nx (ρ.set i (some (.fr d)))) τ1
@[simp] theorem ev_Set : dSet i a ρ τ = eSet (a ρ τ) i ρ := id rfl
@[simp] theorem eSet_ok : eSet (.ok d τ) i ρ = .ok (.nx (ρ.set i (some (.fr d)))) τ := id rfl
@[simp] theorem eSet_ex {x : Ex} : eSet (.ex x τ) i ρ = .ok (.xc x ρ) τ := id rfl
def eDrop (r : R DD) (ρ : PEnv) : R Ct := stE r ρ fun d τ1 => .ok (.nx ρ) τ1
@[simp] theorem ev_Drop : dDrop a ρ τ = eDrop (a ρ τ) ρ := id rfl
@[simp] theorem eDrop_ok : eDrop (.ok d τ) ρ = .ok (.nx ρ) τ := id rfl
def eRet (r : R DD) (ρ : PEnv) : R Ct := stE r ρ fun d τ1 => .ok (.rt d) τ1
@[simp] theorem ev_Ret : dRet a ρ τ = eRet (a ρ τ) ρ := id rfl
@[simp] theorem eRet_ok : eRet (.ok d τ) ρ = .ok (.rt d) τ := id rfl
@[simp] theorem eRet_ex {x : Ex} : eRet (.ex x τ) ρ = .ok (.xc x ρ) τ := id rfl
def eIfS (r : R Bool) (a b : DS) (ρ : PEnv) : R Ct := stE r ρ fun x τ1 => if x = true then a ρ τ1 else b ρ τ1
@[simp] theorem ev_IfS : dIfS A δ δ' ρ τ = eIfS (A ρ τ) δ δ' ρ := id rfl
@[simp] theorem eIfS_t : eIfS (.ok true τ) δ δ' ρ = δ ρ τ := id rfl
@[simp] theorem eIfS_f : eIfS (.ok false τ) δ δ' ρ = δ' ρ τ := id rfl
def eAsg (o : Option PEnv) (τ : TS') : R Ct := match o with
  | some ρ1 => .ok (.nx ρ1) τ
  | none => .no
def eAsgT (r : R DD) (g : Tg) (ρ : PEnv) : R Ct := stE r ρ fun d τ1 => eAsg (tgF g d ρ) τ1
@[simp] theorem ev_AsgT : dAsgT a t ρ τ = eAsgT (a ρ τ) t ρ := id rfl
@[simp] theorem eAsgT_ok : eAsgT (.ok d τ) t ρ = eAsg (tgF t d ρ) τ := id rfl
@[simp] theorem eAsg_some {ρ1 : PEnv} : eAsg (some ρ1) τ = .ok (.nx ρ1) τ := id rfl
def eAug1 (o : Option (Option PV)) (i : Nat) (g : DD → DD → Option DD) (e : DE) (ρ : PEnv) (τ : TS') : R Ct := match o with
  | some (some (.fr x)) => stE (e ρ τ) ρ fun y τ1 => match g x y with
    | some z => .ok (.nx (ρ.set i (some (.fr z)))) τ1
    | none => .no
  | _ => .no
def eAug2 (r : R DD) (i : Nat) (g : DD → DD → Option DD) (x : DD) (ρ : PEnv) : R Ct := stE r ρ fun y τ1 => match g x y with
    | some z => .ok (.nx (ρ.set i (some (.fr z)))) τ1
    | none => .no
def eAug3 (o : Option DD) (i : Nat) (ρ : PEnv) (τ : TS') : R Ct := match o with
    | some z => .ok (.nx (ρ.set i (some (.fr z)))) τ
    | none => .no
@[simp] theorem ev_Aug : dAug i g a ρ τ = eAug1 ρ[i]? i g a ρ τ := id rfl
@[simp] theorem eAug1_ok : eAug1 (some (some (.fr x))) i g a ρ τ = eAug2 (a ρ τ) i g x ρ := id rfl
@[simp] theorem eAug2_ok : eAug2 (.ok y τ) i g x ρ = eAug3 (g x y) i ρ τ := id rfl
@[simp] theorem eAug3_ok : eAug3 (some d) i ρ τ = .ok (.nx (ρ.set i (some (.fr d)))) τ := id rfl
def ePar (r : R (List DD)) (i j : Nat) (ρ : PEnv) : R Ct := stE r ρ fun ds τ1 => match ds with
  | [d, e] => .ok (.nx ((ρ.set i (some (.fr d))).set j (some (.fr e)))) τ1
  | _ => .no
@[simp] theorem ev_Par : dPar i j r ρ τ = ePar (r ρ τ) i j ρ := id rfl
@[simp] theorem ePar_ok : ePar (.ok [x, y] τ) i j ρ = .ok (.nx ((ρ.set i (some (.fr x))).set j (some (.fr y)))) τ := id rfl
/-! owned things -/
variable {φ ψ : PEnv → TS' → R OC}
def eSetO (r : R OC) (i : Nat) (ρ : PEnv) : R Ct := stE r ρ fun c τ1 => .ok (.nx (ρ.set i (some (.ow c)))) τ1
@[simp] theorem ev_SetO : dSetO i φ ρ τ = eSetO (φ ρ τ) i ρ := id rfl
@[simp] theorem eSetO_ok {c : OC} : eSetO (.ok c τ) i ρ = .ok (.nx (ρ.set i (some (.ow c)))) τ := id rfl
def eLstF (r : R (List DD)) : R OC := r.bind fun x τ1 => if x.length ≤ sizeLine then .ok (.lst x) τ1 else .no
@[simp] theorem ev_LstF : dLstF r ρ τ = eLstF (r ρ τ) := id rfl
@[simp] theorem eLstF_ok {xs : List DD} : eLstF (.ok xs τ) = if xs.length ≤ 16777216 then .ok (.lst xs) τ else .no := by
  show (if xs.length ≤ sizeLine then _ else _) = _
  rw [sizeLine_eq]
def its1 : List DD → Option OC
  | [d] => (items? d).map .lst
  | _ => none
@[simp] theorem its1_l {ds : List DD} : its1 [.lst ds] = some (.lst ds) := id rfl
@[simp] theorem its1_t {ds : List DD} : its1 [.tup ds] = some (.lst ds) := id rfl
@[simp] theorem ev_ListF : dListF r ρ τ = eUn (r ρ τ) its1 := by
  unfold dListF eUn
  congr 1
  funext x τ1
  unfold its1
  rcases x with _ | ⟨d, _ | ⟨e, x⟩⟩
  · rfl
  · dsimp only
    cases items? d <;> rfl
  · rfl
def olst : Option DD → Option OC
  | some (.lst cs) => some (.lst cs)
  | _ => none
def eOpF1 (r : R DD) (g : DD → DD → Option DD) (b : DE) (ρ : PEnv) : R OC := r.bind fun x τ1 => (b ρ τ1).bind fun y τ2 => R.of τ2 (olst (g x y))
def eOpF2 (r : R DD) (g : DD → DD → Option DD) (x : DD) : R OC := r.bind fun y τ2 => R.of τ2 (olst (g x y))
@[simp] theorem olst_eq {ds : List DD} : olst (some (.lst ds)) = some (.lst ds) := id rfl
@[simp] theorem ev_OpF : dOpF g a b ρ τ = eOpF1 (a ρ τ) g b ρ := by
  unfold dOpF eOpF1
  congr 1
  funext x τ1
  congr 1
  funext y τ2
  generalize g x y = o
  rcases o with _ | d
  · rfl
  · cases d <;> rfl
@[simp] theorem eOpF1_ok : eOpF1 (.ok x τ) g b ρ = eOpF2 (b ρ τ) g x := id rfl
@[simp] theorem eOpF2_ok : eOpF2 (.ok y τ) g x = R.of τ (olst (g x y)) := id rfl
def eApp1 (o : Option (Option PV)) (i : Nat) (e : DE) (ρ : PEnv) (τ : TS') : R Ct := match o with
  | some (some (.ow (.lst xs))) => stE (e ρ τ) ρ fun d τ1 => if xs.length < sizeLine then .ok (.nx (ρ.set i (some (.ow (.lst (xs ++ [d])))))) τ1 else .no
  | _ => .no
def eApp2 (r : R DD) (i : Nat) (xs : List DD) (ρ : PEnv) : R Ct := stE r ρ fun d τ1 => if xs.length < sizeLine then .ok (.nx (ρ.set i (some (.ow (.lst (xs ++ [d])))))) τ1 else .no
variable {xs ys : List DD}
@[simp] theorem ev_App : dApp i a ρ τ = eApp1 ρ[i]? i a ρ τ := id rfl
@[simp] theorem eApp1_ok : eApp1 (some (some (.ow (.lst xs)))) i a ρ τ = eApp2 (a ρ τ) i xs ρ := id rfl
@[simp] theorem eApp2_ok : eApp2 (.ok d τ) i xs ρ = if xs.length < 16777216 then .ok (.nx (ρ.set i (some (.ow (.lst (xs ++ [d])))))) τ else .no := by
  show (if xs.length < sizeLine then _ else _) = _
  rw [sizeLine_eq]
def eExt1 (o : Option (Option PV)) (i : Nat) (e : DE) (ρ : PEnv) (τ : TS') : R Ct := match o with
  | some (some (.ow (.lst xs))) => stE (e ρ τ) ρ fun d τ1 => match d with
    | .lst ys => if xs.length + ys.length ≤ sizeLine then .ok (.nx (ρ.set i (some (.ow (.lst (xs ++ ys)))))) τ1 else .no
    | _ => .no
  | _ => .no
def eExt2 (r : R DD) (i : Nat) (xs : List DD) (ρ : PEnv) : R Ct := stE r ρ fun d τ1 => match d with
    | .lst ys => if xs.length + ys.length ≤ sizeLine then .ok (.nx (ρ.set i (some (.ow (.lst (xs ++ ys)))))) τ1 else .no
    | _ => .no
@[simp] theorem ev_Ext : dExt i a ρ τ = eExt1 ρ[i]? i a ρ τ := id rfl
@[simp] theorem eExt1_ok : eExt1 (some (some (.ow (.lst xs)))) i a ρ τ = eExt2 (a ρ τ) i xs ρ := id rfl
@[simp] theorem eExt2_ok : eExt2 (.ok (.lst ys) τ) i xs ρ = if xs.length + ys.length ≤ 16777216 then .ok (.nx (ρ.set i (some (.ow (.lst (xs ++ ys)))))) τ else .no := by
  show (if xs.length + ys.length ≤ sizeLine then _ else _) = _
  rw [sizeLine_eq]
def eRevO (o : Option (Option PV)) (i : Nat) (ρ : PEnv) (τ : TS') : R Ct := match o with
  | some (some (.ow (.lst xs))) => .ok (.nx (ρ.set i (some (.ow (.lst xs.reverse))))) τ
  | _ => .no
@[simp] theorem ev_RevO : dRevO i ρ τ = eRevO ρ[i]? i ρ τ := id rfl
@[simp] theorem eRevO_ok : eRevO (some (some (.ow (.lst xs)))) i ρ τ = .ok (.nx (ρ.set i (some (.ow (.lst xs.reverse))))) τ := id rfl
def ePut1 (r : R DD) (i : Nat) (k : DE) (ρ : PEnv) : R Ct := stE r ρ fun d τ1 => match ρ[i]? with
  | some (some (.ow (.lst xs))) => stE (k ρ τ1) ρ fun n τ2 => match n with
    | .int n => match ixN xs.length n with
      | some j => .ok (.nx (ρ.set i (some (.ow (.lst (xs.set j d)))))) τ2
      | none => .no
    | _ => .no
  | _ => .no
def ePut2 (o : Option (Option PV)) (i : Nat) (k : DE) (d : DD) (ρ : PEnv) (τ : TS') : R Ct := match o with
  | some (some (.ow (.lst xs))) => stE (k ρ τ) ρ fun n τ2 => match n with
    | .int n => match ixN xs.length n with
      | some j => .ok (.nx (ρ.set i (some (.ow (.lst (xs.set j d)))))) τ2
      | none => .no
    | _ => .no
  | _ => .no
def ePut3 (r : R DD) (i : Nat) (d : DD) (xs : List DD) (ρ : PEnv) : R Ct := stE r ρ fun n τ2 => match n with
    | .int n => match ixN xs.length n with
      | some j => .ok (.nx (ρ.set i (some (.ow (.lst (xs.set j d)))))) τ2
      | none => .no
    | _ => .no
def ePut4 (o : Option Nat) (i : Nat) (d : DD) (xs : List DD) (ρ : PEnv) (τ : TS') : R Ct := match o with
      | some j => .ok (.nx (ρ.set i (some (.ow (.lst (xs.set j d)))))) τ
      | none => .no
@[simp] theorem ev_PutL : dPutL i b a ρ τ = ePut1 (a ρ τ) i b ρ := id rfl
@[simp] theorem ePut1_ok : ePut1 (.ok d τ) i b ρ = ePut2 ρ[i]? i b d ρ τ := id rfl
@[simp] theorem ePut2_ok : ePut2 (some (some (.ow (.lst xs)))) i b d ρ τ = ePut3 (b ρ τ) i d xs ρ := id rfl
@[simp] theorem ePut3_ok {n : Int} : ePut3 (.ok (.int n) τ) i d xs ρ = ePut4 (ixN xs.length n) i d xs ρ τ := id rfl
@[simp] theorem ePut4_ok : ePut4 (some j) i d xs ρ τ = .ok (.nx (ρ.set i (some (.ow (.lst (xs.set j d)))))) τ := id rfl
def eFrz (o : Option (Option PV)) (i : Nat) (ρ : PEnv) : PEnv := match o with
  | some (some (.ow c)) => ρ.set i (some (.fr (ocD c)))
  | _ => ρ
@[simp] theorem ev_Frz : dFrz i δ ρ τ = δ (eFrz ρ[i]? i ρ) τ := id rfl
@[simp] theorem eFrz_ow {c : OC} : eFrz (some (some (.ow c))) i ρ = ρ.set i (some (.fr (ocD c))) := id rfl
@[simp] theorem eFrz_fr : eFrz (some (some (.fr d))) i ρ = ρ := id rfl
@[simp] theorem eFrz_no : eFrz (some none) i ρ = ρ := id rfl
@[simp] theorem ocD_l : ocD (.lst xs) = .lst xs := id rfl
def eParO (r : R OC) (j : Nat) (ρ ρ' : PEnv) : R Ct := stE r ρ fun y τ2 => .ok (.nx (ρ'.set j (some (.ow y)))) τ2
def eParF (r : R DD) (j : Nat) (ρ ρ' : PEnv) : R Ct := stE r ρ fun y τ2 => .ok (.nx (ρ'.set j (some (.fr y)))) τ2
def eParOO (r : R OC) (i j : Nat) (b : PEnv → TS' → R OC) (ρ : PEnv) : R Ct := stE r ρ fun x τ1 => eParO (b ρ τ1) j ρ (ρ.set i (some (.ow x)))
def eParOF (r : R OC) (i j : Nat) (b : DE) (ρ : PEnv) : R Ct := stE r ρ fun x τ1 => eParF (b ρ τ1) j ρ (ρ.set i (some (.ow x)))
def eParFO (r : R DD) (i j : Nat) (b : PEnv → TS' → R OC) (ρ : PEnv) : R Ct := stE r ρ fun x τ1 => eParO (b ρ τ1) j ρ (ρ.set i (some (.fr x)))
@[simp] theorem ev_ParOO : dParOO i j φ ψ ρ τ = eParOO (φ ρ τ) i j ψ ρ := id rfl
@[simp] theorem ev_ParOF : dParOF i j φ b ρ τ = eParOF (φ ρ τ) i j b ρ := id rfl
@[simp] theorem ev_ParFO : dParFO i j a ψ ρ τ = eParFO (a ρ τ) i j ψ ρ := id rfl
@[simp] theorem eParOO_ok {c : OC} : eParOO (.ok c τ) i j ψ ρ = eParO (ψ ρ τ) j ρ (ρ.set i (some (.ow c))) := id rfl
@[simp] theorem eParOF_ok {c : OC} : eParOF (.ok c τ) i j b ρ = eParF (b ρ τ) j ρ (ρ.set i (some (.ow c))) := id rfl
@[simp] theorem eParFO_ok : eParFO (.ok d τ) i j ψ ρ = eParO (ψ ρ τ) j ρ (ρ.set i (some (.fr d))) := id rfl
@[simp] theorem eParO_ok {c : OC} {ρ' : PEnv} : eParO (.ok c τ) j ρ ρ' = .ok (.nx (ρ'.set j (some (.ow c)))) τ := id rfl
@[simp] theorem eParF_ok {ρ' : PEnv} : eParF (.ok d τ) j ρ ρ' = .ok (.nx (ρ'.set j (some (.fr d)))) τ := id rfl
/-! looking at owned things -/
def eBor (o : Option (Option PV)) (i : Nat) (e : DE) (ρ : PEnv) (τ : TS') : R DD := match o with
  | some (some (.ow c)) => match e (bor i c ρ) none with
    | .ok d _ => if flatD d = true then .ok d τ else .no
    | _ => .no
  | _ => .no
def eBorT (o : Option (Option PV)) (i : Nat) (e : DT) (ρ : PEnv) (τ : TS') : R Bool := match o with
  | some (some (.ow c)) => match e (bor i c ρ) none with
    | .ok d _ => .ok d τ
    | _ => .no
  | _ => .no
def eBor2 (r : R DD) (τ : TS') : R DD := match r with
  | .ok d _ => if flatD d = true then .ok d τ else .no
  | _ => .no
def eBorT2 (r : R Bool) (τ : TS') : R Bool := match r with
  | .ok d _ => .ok d τ
  | _ => .no
@[simp] theorem ev_Bor : dBor i a ρ τ = eBor ρ[i]? i a ρ τ := id rfl
@[simp] theorem ev_BorT : dBorT i A ρ τ = eBorT ρ[i]? i A ρ τ := id rfl
@[simp] theorem eBor_ok {c : OC} : eBor (some (some (.ow c))) i a ρ τ = eBor2 (a (bor i c ρ) none) τ := id rfl
@[simp] theorem eBorT_ok {c : OC} : eBorT (some (some (.ow c))) i A ρ τ = eBorT2 (A (bor i c ρ) none) τ := id rfl
@[simp] theorem eBor2_i {n : Int} {τ' : TS'} : eBor2 (.ok (.int n) τ') τ = .ok (.int n) τ := id rfl
@[simp] theorem eBor2_s {n : Str} {τ' : TS'} : eBor2 (.ok (.str n) τ') τ = .ok (.str n) τ := id rfl
@[simp] theorem eBor2_b {n : Bool} {τ' : TS'} : eBor2 (.ok (.bl n) τ') τ = .ok (.bl n) τ := id rfl
@[simp] theorem eBor2_n {τ' : TS'} : eBor2 (.ok .non τ') τ = .ok .non τ := id rfl
@[simp] theorem eBorT2_ok {n : Bool} {τ' : TS'} : eBorT2 (.ok n τ') τ = .ok n τ := id rfl
@[simp] theorem bor_eq {c : OC} : bor i c ρ = (ρ.map hid).set i (some (.fr (ocD c))) := id rfl
@[simp] theorem hid_t : hid (some .tape) = none := id rfl
@[simp] theorem hid_n : hid none = none := id rfl
@[simp] theorem hid_f : hid (some (.fr d)) = some (.fr d) := id rfl
@[simp] theorem hid_o {c : OC} : hid (some (.ow c)) = some (.ow c) := id rfl
@[simp] theorem hid_s {ns : List Int} : hid (some (.scr ns)) = some (.scr ns) := id rfl
/-! loops -/
def eFor (r : R (List DD)) (g : Tg) (b : DS) (ρ : PEnv) : R Ct := stE r ρ fun ds τ1 => forL g b ds ρ τ1
@[simp] theorem ev_For : dFor I t δ ρ τ = eFor (I ρ τ) t δ ρ := id rfl
@[simp] theorem eFor_ok : eFor (.ok xs τ) t δ ρ = forL t δ xs ρ τ := id rfl
theorem forL_nil : forL t δ [] ρ τ = .ok (.nx ρ) τ := rfl
def eTurn (r : R Ct) (t : Tg) (b : DS) (ds : List DD) : R Ct := turnEnd r (forL t b ds)
theorem forL_cons {ρ1 : PEnv} (h : tgF t d ρ = some ρ1) : forL t δ (d :: xs) ρ τ = eTurn (δ ρ1 τ) t δ xs := by
  rw [forL, h]
  rfl
@[simp] theorem eTurn_nx : eTurn (.ok (.nx ρ) τ) t δ xs = forL t δ xs ρ τ := id rfl
@[simp] theorem eTurn_ct : eTurn (.ok (.ct ρ) τ) t δ xs = forL t δ xs ρ τ := id rfl
@[simp] theorem eTurn_bk : eTurn (.ok (.bk ρ) τ) t δ xs = .ok (.nx ρ) τ := id rfl
@[simp] theorem eTurn_rt : eTurn (.ok (.rt d) τ) t δ xs = .ok (.rt d) τ := id rfl
@[simp] theorem eTurn_xc {x : Ex} : eTurn (.ok (.xc x ρ) τ) t δ xs = .ok (.xc x ρ) τ := id rfl
/-- a loop by what holds ahead of each turn -/
theorem forL_inv {ds : List DD} (Inv : Nat → PEnv → TS' → Prop) (h0 : Inv 0 ρ τ)
    (hs : ∀ k d ρ τ, ds[k]? = some d → Inv k ρ τ → ∃ ρ1, tgF t d ρ = some ρ1 ∧ ∃ ρ2 τ2, (δ ρ1 τ = .ok (.nx ρ2) τ2 ∨ δ ρ1 τ = .ok (.ct ρ2) τ2) ∧ Inv (k + 1) ρ2 τ2) :
    ∃ ρ' τ', forL t δ ds ρ τ = .ok (.nx ρ') τ' ∧ Inv ds.length ρ' τ' := by
  have : ∀ (n k : Nat) (ρ : PEnv) (τ : TS'), ds.length - k = n → k ≤ ds.length → Inv k ρ τ → ∃ ρ' τ', forL t δ (ds.drop k) ρ τ = .ok (.nx ρ') τ' ∧ Inv ds.length ρ' τ' := by
    intro n
    induction n with
    | zero =>
      intro k ρ τ h1 h2 h3
      have e : k = ds.length := by omega
      subst e
      rw [List.drop_length]
      exact ⟨ρ, τ, rfl, h3⟩
    | succ n ih =>
      intro k ρ τ h1 h2 h3
      have hk : k < ds.length := by omega
      obtain ⟨ρ1, e1, ρ2, τ2, e2, h4⟩ := hs k ds[k] ρ τ (List.getElem?_eq_getElem hk) h3
      rw [List.drop_eq_getElem_cons hk, forL_cons e1]
      obtain ⟨ρ', τ', e3, h5⟩ := ih (k + 1) ρ2 τ2 (by omega) hk h4
      rcases e2 with e2 | e2
      · rw [e2, eTurn_nx]; exact ⟨ρ', τ', e3, h5⟩
      · rw [e2, eTurn_ct]; exact ⟨ρ', τ', e3, h5⟩
  have := this ds.length 0 ρ τ rfl (Nat.zero_le _) h0
  rwa [List.drop_zero] at this
/-- a while by a measure -/
theorem while_inv {n : Nat} (Inv : Nat → PEnv → TS' → Prop) {m : Nat} (hm : m < n) (h0 : Inv m ρ τ)
    (hs : ∀ k ρ τ, Inv k ρ τ → (∃ τ1 ρ2 τ2 k', A ρ τ = .ok true τ1 ∧ (δ ρ τ1 = .ok (.nx ρ2) τ2 ∨ δ ρ τ1 = .ok (.ct ρ2) τ2) ∧ k' < k ∧ Inv k' ρ2 τ2) ∨ (∃ τ1, A ρ τ = .ok false τ1 ∧ Inv 0 ρ τ1)) :
    ∃ ρ' τ', dWhile n A δ ρ τ = .ok (.nx ρ') τ' ∧ Inv 0 ρ' τ' ∧ ∃ τ0, A ρ' τ0 = .ok false τ' := by
  have : ∀ (n m : Nat) (ρ : PEnv) (τ : TS'), m < n → Inv m ρ τ → ∃ ρ' τ', whileN A δ n ρ τ = .ok (.nx ρ') τ' ∧ Inv 0 ρ' τ' ∧ ∃ τ0, A ρ' τ0 = .ok false τ' := by
    intro n
    induction n with
    | zero => intro m ρ τ h; omega
    | succ n ih =>
      intro m ρ τ h hi
      rw [whileN]
      rcases hs m ρ τ hi with ⟨τ1, ρ2, τ2, k', h1, h2, h3, h4⟩ | ⟨τ1, h1, h2⟩
      · rw [h1]
        obtain ⟨ρ', τ', e, q⟩ := ih k' ρ2 τ2 (by omega) h4
        rcases h2 with h2 | h2
        · refine ⟨ρ', τ', ?_, q⟩
          rw [stE_ok, if_pos rfl, h2]
          exact e
        · refine ⟨ρ', τ', ?_, q⟩
          rw [stE_ok, if_pos rfl, h2]
          exact e
      · rw [h1]
        exact ⟨ρ, τ1, rfl, h2, τ, h1⟩
  exact this n m ρ τ hm h0
/-! the tape, calls, bodies -/
def eTp (o : Option (Option PV)) (τ : TS') (k : Int) : R DD := match o, τ with
  | some (some .tape), some t => R.of (some t) (tauAt t k)
  | _, _ => .no
@[simp] theorem ev_Tp {k : Int} : dTp i k ρ τ = eTp ρ[i]? τ k := id rfl
@[simp] theorem eTp_ok {k : Int} {T : Tau} : eTp (some (some .tape)) (some T) k = R.of (some T) (tauAt T k) := id rfl
@[simp] theorem tauAt_0 {T : Tau} : tauAt T 0 = some (.lst (T.cells.map DD.int)) := id rfl
@[simp] theorem tauAt_1 {T : Tau} : tauAt T 1 = some (.int T.at') := id rfl
@[simp] theorem tauAt_2 {T : Tau} : tauAt T 2 = some (.int T.left) := id rfl
def eTpPut (r : R DD) (i : Nat) (k : Int) (ρ : PEnv) : R Ct := stE r ρ fun d τ1 => match ρ[i]?, τ1, d with
  | some (some .tape), some t, .int n => match tauPut t k n with
    | some t' => .ok (.nx ρ) (some t')
    | none => .no
  | _, _, _ => .no
def eTpPut2 (o : Option (Option PV)) (k : Int) (ρ : PEnv) (n : Int) (T : Tau) : R Ct := match o with
  | some (some .tape) => match tauPut T k n with
    | some t' => .ok (.nx ρ) (some t')
    | none => .no
  | _ => .no
@[simp] theorem ev_TpPut {k : Int} : dTpPut i k a ρ τ = eTpPut (a ρ τ) i k ρ := id rfl
@[simp] theorem eTpPut_ok {k n : Int} {T : Tau} : eTpPut (.ok (.int n) (some T)) i k ρ = eTpPut2 ρ[i]? k ρ n T := by
  unfold eTpPut eTpPut2
  simp only [stE_ok]
  split <;> split <;> first | rfl | simp_all
@[simp] theorem eTpPut2_1 {n : Int} {T : Tau} : eTpPut2 (some (some .tape)) 1 ρ n T = .ok (.nx ρ) (some { T with at' := n }) := id rfl
@[simp] theorem eTpPut2_2 {n : Int} {T : Tau} : eTpPut2 (some (some .tape)) 2 ρ n T = .ok (.nx ρ) (some { T with left := n }) := id rfl
def eMkT (o : Option (Option PV)) (τ : TS') (i : Nat) (ρ : PEnv) : R Ct := match o, τ with
  | some (some (.scr ns)), none => .ok (.nx (ρ.set i (some .tape))) (some ⟨cells0 ns, 0, 0⟩)
  | _, _ => .no
@[simp] theorem ev_MkT : dMkT i j ρ τ = eMkT ρ[j]? τ i ρ := id rfl
@[simp] theorem eMkT_ok {ns : List Int} : eMkT (some (some (.scr ns))) none i ρ = .ok (.nx (ρ.set i (some .tape))) (some ⟨cells0 ns, 0, 0⟩) := id rfl
variable {p : DP} {ps qs : DPs} {k n m : Nat} {F : Fn} {dv as bs : List PV} {gg : List PV → List PV → List PV}
@[simp] theorem ev_pNil : dpNil ρ τ = .ok [] τ := id rfl
@[simp] theorem ev_pCons : dpCons p ps ρ τ = eCons1 (p ρ τ) ps ρ := id rfl
@[simp] theorem ev_pE : dpE a ρ τ = eMap (a ρ τ) .fr := id rfl
def ePT (o : Option (Option PV)) (τ : TS') : R PV := match o with
  | some (some .tape) => .ok .tape τ
  | some (some (.scr ns)) => .ok (.scr ns) τ
  | _ => .no
@[simp] theorem ev_pT : dpT i ρ τ = ePT ρ[i]? τ := id rfl
@[simp] theorem ePT_t : ePT (some (some .tape)) τ = .ok .tape τ := id rfl
@[simp] theorem ePT_s {ns : List Int} : ePT (some (some (.scr ns))) τ = .ok (.scr ns) τ := id rfl
def eCallN (r : R (List PV)) (k : Nat) (F : Fn) (dv : List PV) : R DD := r.bind fun as τ1 => if as.length + dv.length = k then (F (as ++ dv) τ1).nox else .no
def eCallP (r : R (List PV)) (k : Nat) (F : Fn) (dv : List PV) : R DD := r.bind fun as τ1 => if as.length + dv.length = k then F (as ++ dv) τ1 else .no
@[simp] theorem ev_CallN : dCallN k F dv ps ρ τ = eCallN (ps ρ τ) k F dv := id rfl
@[simp] theorem ev_CallP : dCallP k F dv ps ρ τ = eCallP (ps ρ τ) k F dv := id rfl
@[simp] theorem eCallN_ok : eCallN (.ok as τ) k F dv = if as.length + dv.length = k then (F (as ++ dv) τ).nox else .no := id rfl
@[simp] theorem eCallP_ok : eCallP (.ok as τ) k F dv = if as.length + dv.length = k then F (as ++ dv) τ else .no := id rfl
def eCallK1 (r : R (List PV)) (k n m : Nat) (F : Fn) (g : List PV → List PV → List PV) (b : DPs) (ρ : PEnv) : R DD := r.bind fun as τ1 => (b ρ τ1).bind fun bs τ2 => if as.length = n ∧ bs.length = m ∧ (g as bs).length = k then F (g as bs) τ2 else .no
def eCallK2 (r : R (List PV)) (k n m : Nat) (F : Fn) (g : List PV → List PV → List PV) (as : List PV) : R DD := r.bind fun bs τ2 => if as.length = n ∧ bs.length = m ∧ (g as bs).length = k then F (g as bs) τ2 else .no
def eCallKN1 (r : R (List PV)) (k n m : Nat) (F : Fn) (g : List PV → List PV → List PV) (b : DPs) (ρ : PEnv) : R DD := r.bind fun as τ1 => (b ρ τ1).bind fun bs τ2 => if as.length = n ∧ bs.length = m ∧ (g as bs).length = k then (F (g as bs) τ2).nox else .no
def eCallKN2 (r : R (List PV)) (k n m : Nat) (F : Fn) (g : List PV → List PV → List PV) (as : List PV) : R DD := r.bind fun bs τ2 => if as.length = n ∧ bs.length = m ∧ (g as bs).length = k then (F (g as bs) τ2).nox else .no
@[simp] theorem ev_CallKP : dCallKP k n m F gg ps qs ρ τ = eCallK1 (ps ρ τ) k n m F gg qs ρ := id rfl
@[simp] theorem eCallK1_ok : eCallK1 (.ok as τ) k n m F gg qs ρ = eCallK2 (qs ρ τ) k n m F gg as := id rfl
@[simp] theorem eCallK2_ok : eCallK2 (.ok bs τ) k n m F gg as = if as.length = n ∧ bs.length = m ∧ (gg as bs).length = k then F (gg as bs) τ else .no := id rfl
@[simp] theorem ev_CallKN : dCallKN k n m F gg ps qs ρ τ = eCallKN1 (ps ρ τ) k n m F gg qs ρ := id rfl
@[simp] theorem eCallKN1_ok : eCallKN1 (.ok as τ) k n m F gg qs ρ = eCallKN2 (qs ρ τ) k n m F gg as := id rfl
@[simp] theorem eCallKN2_ok : eCallKN2 (.ok bs τ) k n m F gg as = if as.length = n ∧ bs.length = m ∧ (gg as bs).length = k then (F (gg as bs) τ).nox else .no := id rfl
def eBody (r : R Ct) (τ : TS') : R DD := match r with
  | .ok (.rt d) τ' => .ok d (fixT τ τ')
  | .ok (.nx _) τ' => .ok .non (fixT τ τ')
  | .ok (.xc x _) τ' => .ex x (fixT τ τ')
  | _ => .no
theorem ev_body : bodyF n δ as τ = eBody (δ (startP n as) τ) τ := id rfl
@[simp] theorem eBody_rt {τ' : TS'} : eBody (.ok (.rt d) τ') τ = .ok d (fixT τ τ') := id rfl
@[simp] theorem eBody_nx {τ' : TS'} : eBody (.ok (.nx ρ) τ') τ = .ok .non (fixT τ τ') := id rfl
@[simp] theorem eBody_xc {x : Ex} {τ' : TS'} : eBody (.ok (.xc x ρ) τ') τ = .ex x (fixT τ τ') := id rfl
@[simp] theorem fixT_some {t : Tau} {τ' : TS'} : fixT (some t) τ' = τ' := id rfl
@[simp] theorem fixT_none {τ' : TS'} : fixT none τ' = none := id rfl
def eRaise (r : R (List DD)) (cls : Str) (names : List Str) (ρ : PEnv) : R Ct := stE r ρ fun ds τ1 => if ds.length = names.length ∧ ds.length ≤ 1000 then .ok (.xc ⟨cls, (names.zip ds).reverse⟩ ρ) τ1 else .no
variable {cls : Str} {names : List Str}
@[simp] theorem ev_Raise : dRaise cls names r ρ τ = eRaise (r ρ τ) cls names ρ := id rfl
@[simp] theorem eRaise_ok : eRaise (.ok xs τ) cls names ρ = if xs.length = names.length ∧ xs.length ≤ 1000 then .ok (.xc ⟨cls, (names.zip xs).reverse⟩ ρ) τ else .no := id rfl
end
section
variable {ρ : PEnv} {τ : TS'} {a b c d : DE} {x y z : DD} {i j l k n m : Nat} {r : DA} {φ : PEnv → TS' → R OC} {F : FnO} {dv as bs : List PV} {ps qs : DPs} {gg : List PV → List PV → List PV} {xs : List DD} {C : OC} {δ : DS}
def eTd (o : Option (Option PV)) (τ : TS') (k : Pk) : R DD := match o, τ with
  | some (some .tape), some t => .ok (tauGet t k) (some t)
  | _, _ => .no
@[simp] theorem ev_Td {k : Pk} : dTd i k ρ τ = eTd ρ[i]? τ k := id rfl
@[simp] theorem eTd_ok {k : Pk} {T : Tau} : eTd (some (some .tape)) (some T) k = .ok (tauGet T k) (some T) := id rfl
@[simp] theorem tauGet_c {T : Tau} : tauGet T .cells = .lst (T.cells.map DD.int) := id rfl
@[simp] theorem tauGet_a {T : Tau} : tauGet T .at' = .int T.at' := id rfl
@[simp] theorem tauGet_l {T : Tau} : tauGet T .left = .int T.left := id rfl
def eTdPut (r : R DD) (i : Nat) (k : Pk) (ρ : PEnv) : R Ct := stE r ρ fun d τ1 => match ρ[i]?, τ1, d with
  | some (some .tape), some t, .int n => match tauSet t k n with
    | some t' => .ok (.nx ρ) (some t')
    | none => .no
  | _, _, _ => .no
def eTdPut2 (o : Option (Option PV)) (k : Pk) (ρ : PEnv) (n : Int) (T : Tau) : R Ct := match o with
  | some (some .tape) => match tauSet T k n with
    | some t' => .ok (.nx ρ) (some t')
    | none => .no
  | _ => .no
@[simp] theorem ev_TdPut {k : Pk} : dTdPut i k a ρ τ = eTdPut (a ρ τ) i k ρ := id rfl
@[simp] theorem eTdPut_ok {k : Pk} {n : Int} {T : Tau} : eTdPut (.ok (.int n) (some T)) i k ρ = eTdPut2 ρ[i]? k ρ n T := by
  unfold eTdPut eTdPut2
  simp only [stE_ok]
  split <;> split <;> first | rfl | simp_all
@[simp] theorem eTdPut2_a {n : Int} {T : Tau} : eTdPut2 (some (some .tape)) .at' ρ n T = .ok (.nx ρ) (some { T with at' := n }) := id rfl
@[simp] theorem eTdPut2_l {n : Int} {T : Tau} : eTdPut2 (some (some .tape)) .left ρ n T = .ok (.nx ρ) (some { T with left := n }) := id rfl
@[simp] theorem gRgL1_eq {n : Int} : gRgL1 (.int n) = if rgOk 0 n then some (.lst (rangeD 0 (n - 0).toNat)) else none := id rfl
def eRetO (o : Option (Option PV)) (τ : TS') : R Ct := match o with
  | some (some (.ow c)) => .ok (.ro c) τ
  | _ => .no
@[simp] theorem ev_RetO : dRetO i ρ τ = eRetO ρ[i]? τ := id rfl
@[simp] theorem eRetO_ok : eRetO (some (some (.ow C))) τ = .ok (.ro C) τ := id rfl
def eRetF (r : R OC) (ρ : PEnv) : R Ct := stE r ρ fun c τ1 => .ok (.ro c) τ1
@[simp] theorem ev_RetF : dRetF φ ρ τ = eRetF (φ ρ τ) ρ := id rfl
@[simp] theorem eRetF_ok : eRetF (.ok C τ) ρ = .ok (.ro C) τ := id rfl
@[simp] theorem eSeq_ro : eSeq (.ok (.ro C) τ) δ = .ok (.ro C) τ := id rfl
@[simp] theorem eTurn_ro {t : Tg} : eTurn (.ok (.ro C) τ) t δ xs = .ok (.ro C) τ := id rfl
def eCallON (r : R (List PV)) (k : Nat) (F : FnO) (dv : List PV) : R OC := r.bind fun as τ1 => if as.length + dv.length = k then (F (as ++ dv) τ1).nox else .no
def eCallOP (r : R (List PV)) (k : Nat) (F : FnO) (dv : List PV) : R OC := r.bind fun as τ1 => if as.length + dv.length = k then F (as ++ dv) τ1 else .no
@[simp] theorem ev_CallON : dCallON k F dv ps ρ τ = eCallON (ps ρ τ) k F dv := id rfl
@[simp] theorem ev_CallOP : dCallOP k F dv ps ρ τ = eCallOP (ps ρ τ) k F dv := id rfl
@[simp] theorem eCallON_ok : eCallON (.ok as τ) k F dv = if as.length + dv.length = k then (F (as ++ dv) τ).nox else .no := id rfl
@[simp] theorem eCallOP_ok : eCallOP (.ok as τ) k F dv = if as.length + dv.length = k then F (as ++ dv) τ else .no := id rfl
def eCallKON1 (r : R (List PV)) (k n m : Nat) (F : FnO) (g : List PV → List PV → List PV) (b : DPs) (ρ : PEnv) : R OC := r.bind fun as τ1 => (b ρ τ1).bind fun bs τ2 => if as.length = n ∧ bs.length = m ∧ (g as bs).length = k then (F (g as bs) τ2).nox else .no
def eCallKON2 (r : R (List PV)) (k n m : Nat) (F : FnO) (g : List PV → List PV → List PV) (as : List PV) : R OC := r.bind fun bs τ2 => if as.length = n ∧ bs.length = m ∧ (g as bs).length = k then (F (g as bs) τ2).nox else .no
@[simp] theorem ev_CallKON : dCallKON k n m F gg ps qs ρ τ = eCallKON1 (ps ρ τ) k n m F gg qs ρ := id rfl
@[simp] theorem eCallKON1_ok : eCallKON1 (.ok as τ) k n m F gg qs ρ = eCallKON2 (qs ρ τ) k n m F gg as := id rfl
@[simp] theorem eCallKON2_ok : eCallKON2 (.ok bs τ) k n m F gg as = if as.length = n ∧ bs.length = m ∧ (gg as bs).length = k then (F (gg as bs) τ).nox else .no := id rfl
@[simp] theorem ev_Fz : dFz φ ρ τ = eMap (φ ρ τ) ocD := id rfl
def ePar3 (r : R (List DD)) (i j l : Nat) (ρ : PEnv) : R Ct := stE r ρ fun ds τ1 => match ds with
  | [d, e, f] => .ok (.nx (((ρ.set i (some (.fr d))).set j (some (.fr e))).set l (some (.fr f)))) τ1
  | _ => .no
@[simp] theorem ev_Par3 : dPar3 i j l r ρ τ = ePar3 (r ρ τ) i j l ρ := id rfl
@[simp] theorem ePar3_ok : ePar3 (.ok [x, y, z] τ) i j l ρ = .ok (.nx (((ρ.set i (some (.fr x))).set j (some (.fr y))).set l (some (.fr z)))) τ := id rfl
def ePar3O (r : R OC) (i j l : Nat) (b c : DE) (ρ : PEnv) : R Ct := stE r ρ fun x τ1 => stE (b ρ τ1) ρ fun y τ2 => stE (c ρ τ2) ρ fun z τ3 => .ok (.nx (((ρ.set i (some (.ow x))).set j (some (.fr y))).set l (some (.fr z)))) τ3
def ePar3O2 (r : R DD) (i j l : Nat) (x : OC) (c : DE) (ρ : PEnv) : R Ct := stE r ρ fun y τ2 => stE (c ρ τ2) ρ fun z τ3 => .ok (.nx (((ρ.set i (some (.ow x))).set j (some (.fr y))).set l (some (.fr z)))) τ3
def ePar3O3 (r : R DD) (i j l : Nat) (x : OC) (y : DD) (ρ : PEnv) : R Ct := stE r ρ fun z τ3 => .ok (.nx (((ρ.set i (some (.ow x))).set j (some (.fr y))).set l (some (.fr z)))) τ3
@[simp] theorem ev_Par3O : dPar3O i j l φ b c ρ τ = ePar3O (φ ρ τ) i j l b c ρ := id rfl
@[simp] theorem ePar3O_ok : ePar3O (.ok C τ) i j l b c ρ = ePar3O2 (b ρ τ) i j l C c ρ := id rfl
@[simp] theorem ePar3O2_ok : ePar3O2 (.ok y τ) i j l C c ρ = ePar3O3 (c ρ τ) i j l C y ρ := id rfl
@[simp] theorem ePar3O3_ok : ePar3O3 (.ok z τ) i j l C y ρ = .ok (.nx (((ρ.set i (some (.ow C))).set j (some (.fr y))).set l (some (.fr z)))) τ := id rfl
theorem ev_Swap {T1 T2 T3 T4 : TS'} {xs : List DD} {p q : Int} {u v : Nat} (h1 : c ρ τ = .ok x T1) (h2 : d ρ T1 = .ok y T2) (h3 : ρ[i]? = some (some (.ow (.lst xs)))) (h4 : a ρ T2 = .ok (.int p) T3) (h5 : ixN xs.length p = some u)
    (h6 : b (ρ.set i (some (.ow (.lst (xs.set u x))))) T3 = .ok (.int q) T4) (h7 : ixN xs.length q = some v) : dSwap i a b c d ρ τ = .ok (.nx (ρ.set i (some (.ow (.lst ((xs.set u x).set v y)))))) T4 := by
  unfold dSwap
  rw [h1, stE_ok, h2, stE_ok, h3]
  simp only [h4, stE_ok, h5, h6, h7]
def eBodyO (r : R Ct) (τ : TS') : R OC := match r with
  | .ok (.ro c) τ' => .ok c (fixT τ τ')
  | .ok (.xc x _) τ' => .ex x (fixT τ τ')
  | _ => .no
theorem ev_bodyO : bodyO n δ as τ = eBodyO (δ (startP n as) τ) τ := id rfl
@[simp] theorem eBodyO_ro {τ' : TS'} : eBodyO (.ok (.ro C) τ') τ = .ok C (fixT τ τ') := id rfl
end
/-! ### plain words -/
structure Tn (n : Nat) (t : Tau) : Prop where
  a0 : 0 ≤ t.at'
  a1 : t.at' ≤ n
  l0 : 0 ≤ t.left
theorem Tn.mono {n m : Nat} {t : Tau} (h : Tn n t) (e : n ≤ m) : Tn m t := ⟨h.a0, by have := h.a1; omega, h.l0⟩
theorem Tn.zero {ns : List Int} : Tn 0 ⟨ns, 0, 0⟩ := ⟨Int.le_refl _, Int.le_refl _, Int.le_refl _⟩
@[simp] theorem toPys_ints : ∀ ns : List Int, toPys (ns.map DD.int) = some (ns.map PyData.int)
  | [] => by rw [List.map_nil, toPys] <;> rfl
  | n :: ns => by rw [List.map_cons, toPys, toPys_ints ns, toPy]; rfl
@[simp] theorem toPys_strs : ∀ ns : List Str, toPys (ns.map DD.str) = some (ns.map PyData.str)
  | [] => by rw [List.map_nil, toPys] <;> rfl
  | n :: ns => by rw [List.map_cons, toPys, toPys_strs ns, toPy]; rfl
theorem py2_eqs {g : PyData → PyData → Option DD} {a b : DD} {p q : PyData} (h1 : toPy a = some p) (h2 : toPy b = some q) (h3 : SeqAt.shaped p = true) (h4 : SeqAt.shaped q = true) : py2 g a b = g p q := by
  unfold py2
  rw [h1, h2]
  simp only
  rw [if_pos ⟨h3, h4⟩]
theorem toPy_ints (ns : List Int) : toPy (.lst (ns.map DD.int)) = some (.list (ns.map PyData.int)) := by rw [toPy, toPys_ints]; rfl
theorem toPy_nil : toPy (.lst []) = some (.list []) := by rw [toPy, toPys]; rfl
theorem toPy_strs (ns : List Str) : toPy (.lst (ns.map DD.str)) = some (.list (ns.map PyData.str)) := by rw [toPy, toPys_strs]; rfl
@[simp] theorem ne_nil_ints (ns : List Int) : gNeD (.lst (ns.map DD.int)) (.lst []) = some (.bl (!ns.isEmpty)) := by
  show py2 _ _ _ = _
  rw [py2_eqs (toPy_ints ns) toPy_nil (shaped_ints ns) rfl, eqv_nil, List.isEmpty_map]
end Np
namespace Np
open PySem PySem.Spec PyProof.Rows L2
@[simp] theorem fixT_self {τ : TS'} : fixT τ τ = τ := by cases τ <;> rfl
theorem atI_intsD {ns : List Int} {i : Int} (h0 : 0 ≤ i) (h1 : i < ns.length) : ∃ v, atI (ns.map DD.int) i = some (.int v) := by
  obtain ⟨j, rfl⟩ := Int.eq_ofNat_of_zero_le h0
  have hj : j < ns.length := by omega
  exact ⟨ns[j], atI_nat (by rw [List.getElem?_map, List.getElem?_eq_getElem hj] <;> rfl)⟩
theorem atI_mapD {α β : Type} {f : α → β} {ns : List α} {i : Int} {v : α} (h0 : 0 ≤ i) (h : ns[i.toNat]? = some v) : atI (ns.map f) i = some (f v) := by
  obtain ⟨j, rfl⟩ := Int.eq_ofNat_of_zero_le h0
  exact atI_nat (by rw [List.getElem?_map, show ns[j]? = some v from h] <;> rfl)
/-- one of some, drawn -/
theorem atI_of {α : Type} {xs : List α} {r : Int} (h0 : 0 ≤ r) (h1 : r < xs.length) : ∃ v, atI xs r = some v ∧ v ∈ xs := by
  obtain ⟨j, rfl⟩ := Int.eq_ofNat_of_zero_le h0
  have hj : j < xs.length := by omega
  exact ⟨xs[j], atI_nat (List.getElem?_eq_getElem hj), List.getElem_mem hj⟩
theorem rangeD_map (lo : Int) (n : Nat) : rangeD lo n = ((List.range n).map fun (i : Nat) => lo + i).map DD.int := by
  unfold rangeD
  rw [List.map_map]
  rfl
@[simp] theorem rangeD_len (lo : Int) (n : Nat) : (rangeD lo n).length = n := rangeD_length lo n
theorem rangeD_get {lo : Int} {n k : Nat} {d : DD} (h : (rangeD lo n)[k]? = some d) : k < n ∧ d = .int (lo + k) := by
  have hk : k < n := by have := (List.getElem?_eq_some_iff.mp h).1; rwa [rangeD_length] at this
  unfold rangeD at h
  rw [List.getElem?_map, List.getElem?_range hk] at h
  cases h
  exact ⟨hk, rfl⟩
/-- a comprehension with draws: what holds of each, by the turn -/
theorem lcL_draw {t : Tg} {a : DE} {ρ : PEnv} (Pv : DD → Prop) (Inv : Nat → TS' → Prop) : ∀ (ds : List DD) (k : Nat) (τ : TS'), Inv k τ →
    (∀ j d τ, j < k + ds.length → d ∈ ds → Inv j τ → ∃ ρ1, tgF t d ρ = some ρ1 ∧ ∃ y τ', a ρ1 τ = .ok y τ' ∧ Pv y ∧ Inv (j + 1) τ') →
    ∃ ys τ', lcL t dYes a ρ ds τ = .ok ys τ' ∧ ys.length = ds.length ∧ (∀ y ∈ ys, Pv y) ∧ Inv (k + ds.length) τ'
  | [], k, τ, h, _ => ⟨[], τ, rfl, rfl, (fun _ h => by cases h), h⟩
  | d :: ds, k, τ, h, hs => by
    obtain ⟨ρ1, h1, y, τ', h2, h3, h4⟩ := hs k d τ (by rw [List.length_cons]; omega) List.mem_cons_self h
    obtain ⟨ys, τ2, e, l, q, i⟩ := lcL_draw Pv Inv ds (k + 1) τ' h4 fun j d τ hj hd => hs j d τ (by rw [List.length_cons]; omega) (List.mem_cons_of_mem _ hd)
    refine ⟨y :: ys, τ2, ?_, by rw [List.length_cons, l]; rfl, fun z hz => ?_, by rw [List.length_cons, show k + (ds.length + 1) = k + 1 + ds.length by omega]; exact i⟩
    · rw [lcL, h1]
      simp only [ev_Yes, R.nox_ok, R.bind_ok, if_true, h2, e]
    · rcases List.mem_cons.mp hz with rfl | hz
      · exact h3
      · exact q z hz
theorem all_ints {ys : List DD} {P : Int → Prop} (h : ∀ y ∈ ys, ∃ i, y = .int i ∧ P i) : ∃ ns : List Int, ys = ns.map DD.int ∧ ∀ n ∈ ns, P n := by
  induction ys with
  | nil => exact ⟨[], rfl, fun _ h => by cases h⟩
  | cons y ys ih =>
    obtain ⟨i, rfl, hp⟩ := h _ List.mem_cons_self
    obtain ⟨ns, rfl, hn⟩ := ih fun y hy => h y (List.mem_cons_of_mem _ hy)
    exact ⟨i :: ns, rfl, fun n hn' => by
      rcases List.mem_cons.mp hn' with rfl | q
      · exact hp
      · exact hn n q⟩
end Np
namespace Np
open PySem PySem.Spec PyProof.Rows L2
section
variable {t : Tg} {a : DE} {ρ ρ1 : PEnv} {τ : TS'} {d y : DD} {ds ys : List DD} {A : DT}
@[simp] theorem lcL_nil : lcL t A a ρ [] τ = .ok [] τ := id rfl
def eLy1 (o : Option PEnv) (t : Tg) (a : DE) (ρ : PEnv) (ds : List DD) (τ : TS') : R (List DD) := match o with
  | some ρ1 => (a ρ1 τ).nox.bind fun y τ2 => (lcL t dYes a ρ ds τ2).bind fun ys τ3 => .ok (y :: ys) τ3
  | none => .no
def eLy2 (r : R DD) (t : Tg) (a : DE) (ρ : PEnv) (ds : List DD) : R (List DD) := r.nox.bind fun y τ2 => (lcL t dYes a ρ ds τ2).bind fun ys τ3 => .ok (y :: ys) τ3
theorem lcL_yes : lcL t dYes a ρ (d :: ds) τ = eLy1 (tgF t d ρ) t a ρ ds τ := by
  rw [lcL]
  unfold eLy1
  cases tgF t d ρ <;> rfl
@[simp] theorem eLy1_ok : eLy1 (some ρ1) t a ρ ds τ = eLy2 (a ρ1 τ) t a ρ ds := id rfl
@[simp] theorem eLy2_ok : eLy2 (.ok y τ) t a ρ ds = eCons2 (lcL t dYes a ρ ds τ) y := id rfl
end
def vg (vs : List Int) (i : Int) : Int := vs.getD i.toNat 0
theorem atI_vg {vs : List Int} {i : Int} (h0 : 0 ≤ i) (h1 : i < vs.length) : atI (vs.map DD.int) i = some (.int (vg vs i)) := by
  refine atI_mapD h0 ?_
  unfold vg
  rw [List.getD_eq_getElem?_getD, List.getElem?_eq_getElem (by omega)] <;> rfl
end Np
namespace Np
open PySem PySem.Spec PyProof.Rows L2
theorem rangeD_get0 {n k : Nat} {d : DD} (h : (rangeD 0 n)[k]? = some d) : k < n ∧ d = .int k := by
  obtain ⟨a, b⟩ := rangeD_get h
  rw [Int.zero_add] at b
  exact ⟨a, b⟩
end Np
namespace Np
open PySem PySem.Spec PyProof.Rows L2
theorem cutL_in {α : Type} {xs : List α} {a b : Int} (h0 : 0 ≤ a) (h1 : a ≤ b) (h2 : b ≤ xs.length) : cutL xs (some a) (some b) = (xs.drop a.toNat).take (b.toNat - a.toNat) := by
  unfold cutL HT.sIx
  simp only
  rw [if_neg (by omega), if_neg (by omega), Nat.min_eq_left (by omega), Nat.min_eq_left (by omega)]
theorem cutL_from {α : Type} {xs : List α} {a : Int} (h0 : 0 ≤ a) : cutL xs (some a) none = xs.drop a.toNat := by
  unfold cutL HT.sIx
  simp only
  rw [if_neg (by omega)]
  by_cases h : a.toNat ≤ xs.length
  · rw [Nat.min_eq_left h, List.take_of_length_le (by rw [List.length_drop]; omega)]
  · rw [Nat.min_eq_right (by omega), List.drop_length, List.drop_eq_nil_of_le (by omega)]
    simp
theorem cutL_to {α : Type} {xs : List α} {b : Int} (h0 : 0 ≤ b) : cutL xs none (some b) = xs.take b.toNat := by
  unfold cutL HT.sIx
  simp only
  rw [if_neg (by omega), List.drop_zero, Nat.sub_zero]
  by_cases h : b.toNat ≤ xs.length
  · rw [Nat.min_eq_left h]
  · rw [Nat.min_eq_right (by omega), List.take_length, List.take_of_length_le (by omega)]
theorem rangeD_cut {lo : Int} {n a b : Nat} (h : a + b ≤ n) : ((rangeD lo n).drop a).take b = rangeD (lo + a) b := by
  apply List.ext_getElem?
  intro k
  rw [List.getElem?_take]
  split
  · rename_i hk
    rw [List.getElem?_drop]
    unfold rangeD
    rw [List.getElem?_map, List.getElem?_map, List.getElem?_range (by omega), List.getElem?_range hk]
    simp only [Option.map_some, Option.some.injEq, DD.int.injEq]
    omega
  · rw [List.getElem?_eq_none (by rw [rangeD_length]; omega)]
theorem atI_rangeD {lo : Int} {n : Nat} {i : Int} (h0 : 0 ≤ i) (h1 : i < n) : atI (rangeD lo n) i = some (.int (lo + i)) := by
  obtain ⟨j, rfl⟩ := Int.eq_ofNat_of_zero_le h0
  refine atI_nat ?_
  unfold rangeD
  rw [List.getElem?_map, List.getElem?_range (by omega)] <;> rfl
theorem atI_rangeD_neg {lo : Int} {n : Nat} {i : Int} (h0 : i < 0) (h1 : -(n : Int) ≤ i) : atI (rangeD lo n) i = some (.int (lo + n + i)) := by
  unfold atI ixN
  rw [rangeD_length, if_neg (by omega), if_pos h1]
  show (rangeD lo n)[(i + n).toNat]? = _
  unfold rangeD
  rw [List.getElem?_map, List.getElem?_range (by omega)]
  show some (DD.int _) = some (DD.int _)
  congr 2
  omega
end Np

set_option Elab.async false
set_option linter.all false
set_option maxRecDepth 100000
set_option maxHeartbeats 4000000
namespace Np
open PySem PySem.Spec PyProof.Rows L2
/-! ### data that can be shown and held beside others: n its bulk at most, k its depth -/
def Rb (n k : Nat) (d : DD) : Prop := ∃ p, toPy d = some p ∧ PyData.canLay0 p = true ∧ PyData.depth p ≤ k ∧ PyData.showable p = true ∧ PyData.leavesShort 60 p = true ∧ PyData.bulk p ≤ n
def RbA (n k : Nat) (ds : List DD) : Prop := ∃ ps, toPys ds = some ps ∧ PyData.canLayAll0 ps = true ∧ PyData.depthAll ps ≤ k ∧ PyData.showableAll ps = true ∧ PyData.leavesShortAll 60 ps = true ∧ PyData.bulkAll ps ≤ n
theorem Rb.mono {n k m j : Nat} {d : DD} (h : Rb n k d) (h1 : n ≤ m) (h2 : k ≤ j) : Rb m j d := by
  obtain ⟨p, a, b, c, e, f, g⟩ := h
  exact ⟨p, a, b, Nat.le_trans c h2, e, f, Nat.le_trans g h1⟩
theorem Rb.big {i : Int} (h : i.natAbs < 10 ^ 50) : Rb 0 0 (.int i) := by
  refine ⟨.int i, by rw [toPy], rfl, Nat.le_refl _, ?_, ?_, Nat.le_refl _⟩
  · simp only [PyData.showable, decide_eq_true_eq]
    by_cases h0 : i.natAbs = 0
    · rw [h0]; decide
    · have := (Nat.log2_lt h0 (k := 200)).mpr (Nat.lt_of_lt_of_le h (by decide))
      omega
  · simp only [PyData.leavesShort, decide_eq_true_eq]
    have := (Tx.num (k := 50) (by decide) h).len
    exact Nat.le_trans this (by decide)
theorem Rb.int {i : Int} (h : i.natAbs < 10 ^ 12) : Rb 0 0 (.int i) := Rb.big (Nat.lt_trans h (by decide))
theorem Rb.str {x : Str} {n : Nat} (h : Tx n x) : Rb n 0 (.str x) := by
  refine ⟨.str x, by rw [toPy], h.strOk, Nat.le_refl _, rfl, ?_, h.len⟩
  simp only [PyData.leavesShort, List.all_eq_true, decide_eq_true_eq]
  intro c hc
  have := h.ok c hc
  omega
theorem Rb.bl {b : Bool} : Rb 0 0 (.bl b) := ⟨.bool b, by rw [toPy], rfl, Nat.le_refl _, rfl, rfl, Nat.le_refl _⟩
theorem Rb.non : Rb 0 0 .non := ⟨.none, by rw [toPy], rfl, Nat.le_refl _, rfl, rfl, Nat.le_refl _⟩
theorem RbA.nil : RbA 0 0 [] := ⟨[], by rw [toPys], rfl, Nat.le_refl _, rfl, rfl, Nat.le_refl _⟩
theorem RbA.cons {n m k : Nat} {d : DD} {ds : List DD} (h : Rb n k d) (hs : RbA m k ds) : RbA (n + 1 + m) k (d :: ds) := by
  obtain ⟨p, a, b, c, e, f, g⟩ := h
  obtain ⟨ps, a', b', c', e', f', g'⟩ := hs
  refine ⟨p :: ps, by rw [toPys, a, a'], ?_, ?_, ?_, ?_, ?_⟩
  · show (PyData.canLay0 p && PyData.canLayAll0 ps) = true
    rw [b, b']; rfl
  · show max (PyData.depth p) (PyData.depthAll ps) ≤ k
    omega
  · show (PyData.showable p && PyData.showableAll ps) = true
    rw [e, e']; rfl
  · show (PyData.leavesShort 60 p && PyData.leavesShortAll 60 ps) = true
    rw [f, f']; rfl
  · show PyData.bulk p + 1 + PyData.bulkAll ps ≤ _
    omega
theorem RbA.all {n k : Nat} : ∀ {ds : List DD}, (∀ d ∈ ds, Rb n k d) → RbA ((n + 1) * ds.length) k ds
  | [], _ => by
    obtain ⟨ps, a, b, c, r⟩ := RbA.nil
    exact ⟨ps, a, b, Nat.le_trans c (Nat.zero_le _), r⟩
  | d :: ds, h => by
    have := (h d List.mem_cons_self).mono (Nat.le_refl n) (Nat.le_refl k)
    have ih := RbA.all (n := n) (k := k) (ds := ds) fun x hx => h x (List.mem_cons_of_mem _ hx)
    have r := RbA.cons this ih
    rw [List.length_cons, Nat.mul_succ, Nat.add_comm]
    exact r
theorem Rb.lst {n k : Nat} {ds : List DD} (h : RbA n k ds) : Rb n (k + 1) (.lst ds) := by
  obtain ⟨ps, a, b, c, e, f, g⟩ := h
  exact ⟨.list ps, by rw [toPy, a]; rfl, b, Nat.succ_le_succ c, e, f, g⟩
theorem Rb.tup {n k : Nat} {ds : List DD} (h : RbA n k ds) : Rb n (k + 1) (.tup ds) := by
  obtain ⟨ps, a, b, c, e, f, g⟩ := h
  exact ⟨.tuple ps, by rw [toPy, a]; rfl, b, Nat.succ_le_succ c, e, f, g⟩
theorem fits60 {d : PyData} (hl : d.leavesShort 60 = true) (hw : d.bulk ≤ 2 ^ 17) : d.shown.length ≤ sizeLine := by
  have h := PyData.shown_le_bulk 60 (by decide) d hl
  have e : (2 : Nat) ^ 17 = 131072 := by decide
  have h2 : (60 + 2) * d.bulk ≤ 62 * 131072 := Nat.mul_le_mul (Nat.le_refl _) (by omega)
  rw [sizeLine_eq]
  omega
theorem gRepr_ok {n k : Nat} {d : DD} {l : List DD} (h : Rb n k d) (hi : items? d = some l) (hn : n ≤ 2 ^ 17) (hk : k ≤ 64) : ∃ x, gRepr d = some (.str x) := by
  obtain ⟨p, a, b, c, e, f, g⟩ := h
  refine ⟨p.shown, ?_⟩
  unfold gRepr
  rw [a, hi]
  have sh : SeqAt.shaped p = true := by
    unfold SeqAt.shaped
    rw [b, decide_eq_true (Nat.le_trans c hk)] <;> rfl
  simp only
  rw [if_pos ⟨e, sh, fits60 f (Nat.le_trans g hn)⟩]
theorem Rb.shaped {n k : Nat} {d : DD} (h : Rb n k d) (hk : k ≤ 64) : ∃ p, toPy d = some p ∧ SeqAt.shaped p = true := by
  obtain ⟨p, a, b, c, _⟩ := h
  refine ⟨p, a, ?_⟩
  unfold SeqAt.shaped
  rw [b, decide_eq_true (Nat.le_trans c hk)] <;> rfl
/-! ### == of data: of the same words -/
/-! data in which == is being the same: no truths -/
mutual
def plainD : DD → Bool
  | .non => true
  | .int _ => true
  | .str _ => true
  | .lst ds => plainDs ds
  | .tup ds => plainDs ds
  | _ => false
def plainDs : List DD → Bool
  | [] => true
  | d :: ds => plainD d && plainDs ds
end
mutual
theorem eqv_iff : ∀ {a b : DD} {p q : PyData}, plainD a = true → plainD b = true → toPy a = some p → toPy b = some q → (PyData.eqv p q = true ↔ a = b)
  | a, b, p, q, ha, hb, h1, h2 => by
    match a, ha, h1 with
    | .non, _, h1 =>
      rw [toPy] at h1; cases h1
      match b, hb, h2 with
      | .non, _, h2 => rw [toPy] at h2; cases h2; simp [PyData.eqv]
      | .int j, _, h2 => rw [toPy] at h2; cases h2; simp [PyData.eqv]
      | .str j, _, h2 => rw [toPy] at h2; cases h2; simp [PyData.eqv]
      | .lst j, _, h2 => rw [toPy] at h2; obtain ⟨x, _, rfl⟩ := Option.map_eq_some_iff.mp h2; simp [PyData.eqv]
      | .tup j, _, h2 => rw [toPy] at h2; obtain ⟨x, _, rfl⟩ := Option.map_eq_some_iff.mp h2; simp [PyData.eqv]
    | .int i, _, h1 =>
      rw [toPy] at h1; cases h1
      match b, hb, h2 with
      | .non, _, h2 => rw [toPy] at h2; cases h2; simp [PyData.eqv]
      | .int j, _, h2 => rw [toPy] at h2; cases h2; simp [PyData.eqv]
      | .str j, _, h2 => rw [toPy] at h2; cases h2; simp [PyData.eqv]
      | .lst j, _, h2 => rw [toPy] at h2; obtain ⟨x, _, rfl⟩ := Option.map_eq_some_iff.mp h2; simp [PyData.eqv]
      | .tup j, _, h2 => rw [toPy] at h2; obtain ⟨x, _, rfl⟩ := Option.map_eq_some_iff.mp h2; simp [PyData.eqv]
    | .str i, _, h1 =>
      rw [toPy] at h1; cases h1
      match b, hb, h2 with
      | .non, _, h2 => rw [toPy] at h2; cases h2; simp [PyData.eqv]
      | .int j, _, h2 => rw [toPy] at h2; cases h2; simp [PyData.eqv]
      | .str j, _, h2 => rw [toPy] at h2; cases h2; simp [PyData.eqv]
      | .lst j, _, h2 => rw [toPy] at h2; obtain ⟨x, _, rfl⟩ := Option.map_eq_some_iff.mp h2; simp [PyData.eqv]
      | .tup j, _, h2 => rw [toPy] at h2; obtain ⟨x, _, rfl⟩ := Option.map_eq_some_iff.mp h2; simp [PyData.eqv]
    | .lst i, ha, h1 =>
      rw [toPy] at h1; obtain ⟨x, hx, rfl⟩ := Option.map_eq_some_iff.mp h1
      rw [plainD] at ha
      match b, hb, h2 with
      | .non, _, h2 => rw [toPy] at h2; cases h2; simp [PyData.eqv]
      | .int j, _, h2 => rw [toPy] at h2; cases h2; simp [PyData.eqv]
      | .str j, _, h2 => rw [toPy] at h2; cases h2; simp [PyData.eqv]
      | .lst j, hb, h2 =>
        rw [toPy] at h2; obtain ⟨y, hy, rfl⟩ := Option.map_eq_some_iff.mp h2
        rw [plainD] at hb
        rw [PyData.eqv, eqvs_iff ha hb hx hy]
        simp
      | .tup j, _, h2 => rw [toPy] at h2; obtain ⟨y, _, rfl⟩ := Option.map_eq_some_iff.mp h2; simp [PyData.eqv]
    | .tup i, ha, h1 =>
      rw [toPy] at h1; obtain ⟨x, hx, rfl⟩ := Option.map_eq_some_iff.mp h1
      rw [plainD] at ha
      match b, hb, h2 with
      | .non, _, h2 => rw [toPy] at h2; cases h2; simp [PyData.eqv]
      | .int j, _, h2 => rw [toPy] at h2; cases h2; simp [PyData.eqv]
      | .str j, _, h2 => rw [toPy] at h2; cases h2; simp [PyData.eqv]
      | .lst j, _, h2 => rw [toPy] at h2; obtain ⟨y, _, rfl⟩ := Option.map_eq_some_iff.mp h2; simp [PyData.eqv]
      | .tup j, hb, h2 =>
        rw [toPy] at h2; obtain ⟨y, hy, rfl⟩ := Option.map_eq_some_iff.mp h2
        rw [plainD] at hb
        rw [PyData.eqv, eqvs_iff ha hb hx hy]
        simp
theorem eqvs_iff : ∀ {a b : List DD} {p q : List PyData}, plainDs a = true → plainDs b = true → toPys a = some p → toPys b = some q → (PyData.eqvAll p q = true ↔ a = b)
  | [], b, p, q, _, hb, h1, h2 => by
    rw [toPys] at h1; cases h1
    cases b with
    | nil => rw [toPys] at h2; cases h2; simp [PyData.eqvAll]
    | cons y ys =>
      rw [toPys] at h2
      split at h2
      · cases h2; simp [PyData.eqvAll]
      · cases h2
  | x :: xs, b, p, q, ha, hb, h1, h2 => by
    rw [toPys] at h1
    rw [plainDs, Bool.and_eq_true] at ha
    split at h1
    · rename_i u us e1 e2
      cases h1
      cases b with
      | nil => rw [toPys] at h2; cases h2; simp [PyData.eqvAll]
      | cons y ys =>
        rw [toPys] at h2
        rw [plainDs, Bool.and_eq_true] at hb
        split at h2
        · rename_i v vs e3 e4
          cases h2
          rw [PyData.eqvAll, Bool.and_eq_true, eqv_iff ha.1 hb.1 e1 e3, eqvs_iff ha.2 hb.2 e2 e4]
          simp
        · cases h2
    · cases h1
end
theorem gEqD_eq {a b : DD} {n k m j : Nat} (ha : Rb n k a) (hb : Rb m j b) (hk : k ≤ 64) (hj : j ≤ 64) (pa : plainD a = true) (pb : plainD b = true) [Decidable (a = b)] : gEqD a b = some (.bl (decide (a = b))) := by
  obtain ⟨p, h1, h3⟩ := ha.shaped hk
  obtain ⟨q, h2, h4⟩ := hb.shaped hj
  show py2 _ _ _ = _
  rw [py2_eqs h1 h2 h3 h4]
  congr 2
  have := eqv_iff pa pb h1 h2
  by_cases h : a = b
  · rw [decide_eq_true h]; exact this.mpr h
  · rw [decide_eq_false h]
    cases hh : PyData.eqv p q with
    | false => rfl
    | true => exact absurd (this.mp hh) h
theorem gNeD_eq {a b : DD} {n k m j : Nat} (ha : Rb n k a) (hb : Rb m j b) (hk : k ≤ 64) (hj : j ≤ 64) (pa : plainD a = true) (pb : plainD b = true) [Decidable (a = b)] : gNeD a b = some (.bl (!decide (a = b))) := by
  obtain ⟨p, h1, h3⟩ := ha.shaped hk
  obtain ⟨q, h2, h4⟩ := hb.shaped hj
  show py2 _ _ _ = _
  rw [py2_eqs h1 h2 h3 h4]
  congr 3
  have := eqv_iff pa pb h1 h2
  by_cases h : a = b
  · rw [decide_eq_true h]; exact this.mpr h
  · rw [decide_eq_false h]
    cases hh : PyData.eqv p q with
    | false => rfl
    | true => exact absurd (this.mp hh) h
theorem toPys_mem {ds : List DD} : ∀ {ps : List PyData}, toPys ds = some ps → ∀ {d : DD} {p : PyData}, plainD d = true → plainDs ds = true → toPy d = some p → ((ps.any fun z => PyData.eqv z p) = true ↔ d ∈ ds) := by
  induction ds with
  | nil => intro ps h d p _ _ _; rw [toPys] at h; cases h; simp
  | cons x xs ih =>
    intro ps h d p pd pds hp
    rw [toPys] at h
    rw [plainDs, Bool.and_eq_true] at pds
    split at h
    · rename_i u us e1 e2
      cases h
      rw [List.any_cons, Bool.or_eq_true, eqv_iff pds.1 pd e1 hp, ih e2 pd pds.2 hp, List.mem_cons]
      constructor
      · rintro (h | h)
        · exact .inl h.symm
        · exact .inr h
      · rintro (h | h)
        · exact .inl h.symm
        · exact .inr h
    · cases h
theorem gInD_eq {d : DD} {ds : List DD} {n k m j : Nat} (ha : Rb n k d) (hb : Rb m j (.lst ds)) (hk : k ≤ 64) (hj : j ≤ 64) (pa : plainD d = true) (pb : plainDs ds = true) [Decidable (d ∈ ds)] : gInD d (.lst ds) = some (.bl (decide (d ∈ ds))) := by
  obtain ⟨p, h1, h3⟩ := ha.shaped hk
  obtain ⟨q, h2, h4⟩ := hb.shaped hj
  show py2 _ _ _ = _
  rw [py2_eqs h1 h2 h3 h4]
  rw [toPy] at h2
  obtain ⟨ps, hp, rfl⟩ := Option.map_eq_some_iff.mp h2
  show some (DD.bl _) = some (DD.bl _)
  congr 2
  have := toPys_mem hp pa pb h1
  by_cases h : d ∈ ds
  · rw [decide_eq_true h]; exact this.mpr h
  · rw [decide_eq_false h]
    cases hh : ps.any fun z => PyData.eqv z p with
    | false => rfl
    | true => exact absurd (this.mp hh) h
end Np
namespace Np
open PySem PySem.Spec PyProof.Rows L2
@[simp] theorem eq_nil_ints (ns : List Int) : gEqD (.lst (ns.map DD.int)) (.lst []) = some (.bl ns.isEmpty) := by
  show py2 _ _ _ = _
  rw [py2_eqs (toPy_ints ns) toPy_nil (shaped_ints ns) rfl, eqv_nil, List.isEmpty_map]
theorem gInF_ints {i : Int} {ns : List Int} : gInF false (.int i) (.lst (ns.map DD.int)) = some (.bl (decide (i ∈ ns))) := by
  unfold gInF
  simp only [flat?, items?, Option.bind_some, flats?_ints, Bool.false_eq_true, if_false, inV_ints]
theorem gInF_strs {i : Str} {ns : List Str} : gInF false (.str i) (.lst (ns.map DD.str)) = some (.bl (decide (i ∈ ns))) := by
  unfold gInF
  simp only [flat?, items?, Option.bind_some, flats?_strs, Bool.false_eq_true, if_false, inV_strs]
theorem gNeD_ints {ms ns : List Int} : gNeD (.lst (ms.map DD.int)) (.lst (ns.map DD.int)) = some (.bl (!decide (ms = ns))) := by
  show py2 _ _ _ = _
  rw [py2_eqs (toPy_ints ms) (toPy_ints ns) (shaped_ints ms) (shaped_ints ns)]
  congr 3
  have h : ∀ ms ns : List Int, PyData.eqvAll (ms.map PyData.int) (ns.map PyData.int) = decide (ms = ns) := by
    intro ms
    induction ms with
    | nil => intro ns; cases ns <;> simp [PyData.eqvAll]
    | cons m ms ih =>
      intro ns
      cases ns with
      | nil => simp [PyData.eqvAll]
      | cons n ns =>
        simp only [List.map_cons, PyData.eqvAll, PyData.eqv, ih]
        by_cases h1 : m = n <;> by_cases h2 : ms = ns <;> simp [h1, h2]
  rw [PyData.eqv, h]
end Np

set_option Elab.async false
set_option linter.all false
set_option maxRecDepth 100000
set_option maxHeartbeats 4000000
namespace Np
open PySem L2 PySem.StrLaws Builtin Builtin.Str
/-! x.rsplit("-", 2) of three parts -/
def stR (s sub : PySem.Str) (limit : Nat) (st : Array Nat × Nat) (k : Nat) : Array Nat × Nat :=
  if (st.fst.size < limit ∧ s.length - k + sub.length ≤ st.snd) ∧ subAt s sub (s.length - k) = true then (st.fst.push (s.length - k), s.length - k) else st
theorem occR_run (s sub : PySem.Str) (limit : Nat) : ∀ (l : List Nat) (st : Array Nat × Nat), (forIn l st (occRBody s sub limit)).run = l.foldl (stR s sub limit) st
  | [], st => rfl
  | a :: l, st => by
    rw [List.forIn_cons, List.foldl_cons]
    unfold occRBody
    by_cases h : (st.fst.size < limit ∧ s.length - a + sub.length ≤ st.snd) ∧ subAt s sub (s.length - a) = true
    · rw [if_pos h, show stR s sub limit st a = _ from if_pos h]
      exact occR_run s sub limit l _
    · rw [if_neg h, show stR s sub limit st a = _ from if_neg h]
      exact occR_run s sub limit l _
theorem occR_fold (s sub : PySem.Str) (limit : Nat) : occurrencesFromRight s sub limit = ((List.range' 0 (s.length + 1)).foldl (stR s sub limit) (#[], s.length)).1.toList.reverse := by
  rw [occR_eq, occR_run]
theorem fold_skip {s sub : PySem.Str} {limit : Nat} {st : Array Nat × Nat} : ∀ (l : List Nat), (∀ k ∈ l, subAt s sub (s.length - k) = false ∨ ¬ st.1.size < limit) → l.foldl (stR s sub limit) st = st
  | [], h => rfl
  | a :: l, h => by
    rw [List.foldl_cons]
    have e : stR s sub limit st a = st := if_neg (fun z => by
      rcases h a List.mem_cons_self with q | q
      · rw [q] at z; exact Bool.false_ne_true z.2
      · exact q z.1.1)
    rw [e]
    exact fold_skip l fun k hk => h k (List.mem_cons_of_mem _ hk)
def dash : PySem.Str := Str.ofString "-"
theorem dash_l : dash.cps.toList = [45] := by decide +kernel
theorem dash_n : dash.length = 1 := by decide +kernel
theorem len_l (x : PySem.Str) : x.length = x.cps.toList.length := by show x.cps.size = _; simp
theorem sub_dash (s : PySem.Str) (i : Nat) : subAt s dash i = (s.cps.toList[i]? == some 45) := by
  rw [subAt_eq, dash_l, dash_n]
  generalize s.cps.toList = l
  cases h : l.drop i with
  | nil =>
    have : l[i]? = none := by rw [List.getElem?_eq_none_iff]; have := congrArg List.length h; simp at this; omega
    rw [this]; rfl
  | cons c r =>
    have : l[i]? = some c := by
      have := congrArg (fun z => z[0]?) h
      simpa using this
    rw [this]
    simp
def eAsgL (r : R DD) (ts : List Tg) (ρ : PEnv) : R Ct := stE r ρ fun d τ1 => match d with
  | .lst ds => match tgFs ts ds ρ with
    | some ρ1 => .ok (.nx ρ1) τ1
    | none => .no
  | _ => .no
@[simp] theorem ev_AsgL {a : DE} {ts : List Tg} {ρ : PEnv} {τ : TS'} : dAsgL a ts ρ τ = eAsgL (a ρ τ) ts ρ := id rfl
@[simp] theorem eAsgL_3 {ρ : PEnv} {τ : TS'} {i j k : Nat} {x y z : DD} : eAsgL (.ok (.lst [x, y, z]) τ) [.nm i, .nm j, .nm k] ρ = .ok (.nx (((ρ.set i (some (.fr x))).set j (some (.fr y))).set k (some (.fr z)))) τ := by
  simp [eAsgL, tgFs, tgF, stE]
theorem rsplit3 {x A B C : PySem.Str} (hx : x.cps.toList = A.cps.toList ++ 45 :: (B.cps.toList ++ 45 :: C.cps.toList)) (hB : 45 ∉ B.cps.toList) (hC : 45 ∉ C.cps.toList) :
    Txt.rsplitMax x dash 2 = [A, B, C] := by
  have hn : x.length = A.length + B.length + C.length + 2 := by rw [len_l, hx, len_l, len_l, len_l]; simp; omega
  have hk : ∀ i : Nat, x.cps.toList[i]? = (A.cps.toList ++ 45 :: (B.cps.toList ++ 45 :: C.cps.toList))[i]? := fun i => by rw [hx]
  have la := len_l A
  have lb := len_l B
  have lc := len_l C
  have sC : ∀ i, A.length + B.length + 2 ≤ i → subAt x dash i = false := fun i hi => by
    rw [sub_dash, hk]
    have : (A.cps.toList ++ 45 :: (B.cps.toList ++ 45 :: C.cps.toList))[i]? = C.cps.toList[i - (A.length + B.length + 2)]? := by
      rw [List.getElem?_append_right (by omega), List.getElem?_cons, if_neg (by omega), List.getElem?_append_right (by omega), List.getElem?_cons, if_neg (by omega)]
      congr 1; omega
    rw [this]
    refine beq_eq_false_iff_ne.mpr fun z => hC (List.mem_of_getElem? z)
  have s2 : subAt x dash (A.length + B.length + 1) = true := by
    rw [sub_dash, hk, List.getElem?_append_right (by omega), List.getElem?_cons, if_neg (by omega), List.getElem?_append_right (by omega), List.getElem?_cons, if_pos (by omega)]
    rfl
  have sB : ∀ i, A.length < i → i < A.length + B.length + 1 → subAt x dash i = false := fun i h1 h2 => by
    rw [sub_dash, hk]
    have : (A.cps.toList ++ 45 :: (B.cps.toList ++ 45 :: C.cps.toList))[i]? = B.cps.toList[i - (A.length + 1)]? := by
      rw [List.getElem?_append_right (by omega), List.getElem?_cons, if_neg (by omega), List.getElem?_append_left (by omega)]
      congr 1
    rw [this]
    refine beq_eq_false_iff_ne.mpr fun z => hB (List.mem_of_getElem? z)
  have s1 : subAt x dash A.length = true := by
    rw [sub_dash, hk, List.getElem?_append_right (by omega), List.getElem?_cons, if_pos (by omega)]
    rfl
  have rg : List.range' 0 (x.length + 1) = List.range' 0 (C.length + 1) ++ ((C.length + 1) :: (List.range' (C.length + 2) B.length ++ ((C.length + 2 + B.length) :: List.range' (C.length + 3 + B.length) A.length))) := by
    have e0 : ∀ s m : Nat, s :: List.range' (s + 1) m = List.range' s (m + 1) := fun s m => (List.range'_succ ..).symm
    rw [show C.length + 3 + B.length = (C.length + 2 + B.length) + 1 by omega, e0, List.range'_append_1, show C.length + 2 = C.length + 1 + 1 from rfl, e0]
    rw [show List.range' 0 (C.length + 1) ++ List.range' (C.length + 1) (B.length + (A.length + 1) + 1) = List.range' 0 (C.length + 1) ++ List.range' (0 + (C.length + 1)) (B.length + (A.length + 1) + 1) by rw [Nat.zero_add], List.range'_append_1, hn]
    congr 1; omega
  have oc : occurrencesFromRight x dash 2 = [A.length, A.length + B.length + 1] := by
    rw [occR_fold, rg, List.foldl_append, fold_skip (List.range' 0 (C.length + 1)) (fun k hk' => .inl (sC _ (by have := List.mem_range'_1.mp hk'; omega)))]
    rw [List.foldl_cons, show stR x dash 2 (#[], x.length) (C.length + 1) = (#[A.length + B.length + 1], A.length + B.length + 1) from by
      unfold stR
      rw [show x.length - (C.length + 1) = A.length + B.length + 1 by omega, if_pos ⟨⟨by show 0 < 2; omega, by rw [dash_n]; show _ ≤ x.length; omega⟩, s2⟩]; rfl]
    rw [List.foldl_append, fold_skip (List.range' (C.length + 2) B.length) (fun k hk' => .inl (sB _ (by have := List.mem_range'_1.mp hk'; omega) (by have := List.mem_range'_1.mp hk'; omega)))]
    rw [List.foldl_cons, show stR x dash 2 (#[A.length + B.length + 1], A.length + B.length + 1) (C.length + 2 + B.length) = (#[A.length + B.length + 1, A.length], A.length) from by
      unfold stR
      rw [show x.length - (C.length + 2 + B.length) = A.length by omega, if_pos ⟨⟨by show 1 < 2; omega, by rw [dash_n]; show _ ≤ A.length + B.length + 1; omega⟩, s1⟩]; rfl]
    rw [fold_skip (List.range' (C.length + 3 + B.length) A.length) (fun k _ => .inr (by show ¬ 2 < 2; omega))]
    rfl
  have lim : limitOf x 2 = 2 := rfl
  unfold Txt.rsplitMax
  rw [lim, oc]
  have k1 : ¬ ((decide (x.length < dash.length) || decide (strKind x < strKind dash)) = true) := by
    rw [dash_n]
    have : Builtin.Str.strKind dash = 1 := by decide +kernel
    rw [this]
    have : 1 ≤ Builtin.Str.strKind x := by unfold Builtin.Str.strKind; split; omega; split <;> omega
    simp; omega
  rw [if_neg k1, if_neg (by simp)]
  have ex : ∀ {y z : PySem.Str}, y.cps.toList = z.cps.toList → y = z := fun {y z} h => by cases y; cases z; congr 1; exact Array.toList_inj.mp h
  show [strSub x 0 A.length, strSub x (A.length + dash.length) (A.length + B.length + 1), strSub x (A.length + B.length + 1 + dash.length) x.length] = [A, B, C]
  rw [dash_n]
  have e1 : strSub x 0 A.length = A := ex (by unfold strSub; rw [Array.toList_extract, List.extract_eq_drop_take, hx, la]; simp)
  have e2 : strSub x (A.length + 1) (A.length + B.length + 1) = B := ex (by
    unfold strSub
    rw [Array.toList_extract, List.extract_eq_drop_take, hx, show A.cps.toList ++ 45 :: (B.cps.toList ++ 45 :: C.cps.toList) = (A.cps.toList ++ [45]) ++ (B.cps.toList ++ 45 :: C.cps.toList) by simp,
      List.drop_left' (by simp [la]), show A.length + B.length + 1 - (A.length + 1) = B.length by omega, List.take_left' lb.symm])
  have e3 : strSub x (A.length + B.length + 1 + 1) x.length = C := ex (by
    unfold strSub
    rw [Array.toList_extract, List.extract_eq_drop_take, hx, show A.cps.toList ++ 45 :: (B.cps.toList ++ 45 :: C.cps.toList) = (A.cps.toList ++ 45 :: B.cps.toList ++ [45]) ++ C.cps.toList by simp,
      List.drop_left' (by simp [la, lb]; omega), List.take_of_length_le (by omega)])
  rw [e1, e2, e3]
end Np

set_option Elab.async false
set_option linter.all false
set_option maxRecDepth 100000
set_option maxHeartbeats 4000000
namespace Np
open PySem L2
/-! ### texts as lists of code points -/
def S (l : List Nat) : PySem.Str := ⟨l.toArray⟩
theorem S_of (x : PySem.Str) : x = S x.cps.toList := by cases x; simp [S]
theorem S_ex (x : PySem.Str) : ∃ l, x = S l := ⟨_, S_of x⟩
@[simp] theorem S_l (l : List Nat) : (S l).cps.toList = l := by simp [S]
@[simp] theorem S_n (l : List Nat) : (S l).length = l.length := by show l.toArray.size = _; simp
@[simp] theorem S_cat (a b : List Nat) : S a ++ S b = S (a ++ b) := by show Str.mk (a.toArray ++ b.toArray) = _; simp [S]
@[simp] theorem S_inj {a b : List Nat} : S a = S b ↔ a = b := ⟨fun h => by have := congrArg (fun z => z.cps.toList) h; simpa using this, fun h => by rw [h]⟩
@[simp] theorem S_cut (l : List Nat) (lo hi : Option Int) : cutS (S l) lo hi = S (cutL l lo hi) := by
  unfold cutS cutL
  rw [S_l, S_n]
  rfl
@[simp] theorem S_rev (l : List Nat) : revS (S l) = S l.reverse := by unfold revS; simp [S]
@[simp] theorem S_signs (l : List Nat) : signs (S l) = l.map fun c => DD.str (S [c]) := by unfold signs; rw [S_l]; rfl
theorem S_one (c : Nat) : (⟨#[c]⟩ : PySem.Str) = S [c] := rfl
theorem str_emp : Str.empty = S [] := rfl
/-! split by one sign -/
def splitL (c : Nat) : List Nat → List (List Nat)
  | [] => [[]]
  | x :: xs => if x = c then [] :: splitL c xs else match splitL c xs with
    | h :: t => (x :: h) :: t
    | [] => [[x]]
def joinL (s : List Nat) : List (List Nat) → List Nat
  | [] => []
  | [x] => x
  | x :: y :: r => x ++ s ++ joinL s (y :: r)
theorem splitL_ne (c : Nat) : ∀ l, splitL c l ≠ []
  | [] => by simp [splitL]
  | x :: xs => by
    unfold splitL
    split
    · simp
    · split <;> simp
theorem splitL_free {c : Nat} : ∀ {p l : List Nat}, c ∉ p → splitL c (p ++ c :: l) = p :: splitL c l
  | [], l, _ => by simp [splitL]
  | x :: p, l, h => by
    simp only [List.mem_cons, not_or] at h
    rw [List.cons_append, splitL, if_neg (fun z => h.1 z.symm), splitL_free h.2]
theorem splitL_end {c : Nat} : ∀ {p : List Nat}, c ∉ p → splitL c p = [p]
  | [], _ => rfl
  | x :: p, h => by
    simp only [List.mem_cons, not_or] at h
    rw [splitL, if_neg (fun z => h.1 z.symm), splitL_end h.2]
theorem splitL_uniq {c : Nat} : ∀ {ps : List (List Nat)} {l : List Nat}, ps ≠ [] → (∀ p ∈ ps, c ∉ p) → joinL [c] ps = l → splitL c l = ps
  | [], _, h, _, _ => absurd rfl h
  | [x], l, _, h, e => by
    subst e
    exact splitL_end (h x List.mem_cons_self)
  | x :: y :: r, l, _, h, e => by
    subst e
    have e2 : joinL [c] (x :: y :: r) = x ++ c :: joinL [c] (y :: r) := by simp [joinL]
    rw [e2, splitL_free (h x List.mem_cons_self), splitL_uniq (ps := y :: r) (by simp) (fun p hp => h p (List.mem_cons_of_mem _ hp)) rfl]
theorem join_l (s : PySem.Str) : ∀ ps : List PySem.Str, (Str.join s ps).cps.toList = joinL s.cps.toList (ps.map fun z => z.cps.toList)
  | [] => rfl
  | [x] => rfl
  | x :: y :: r => by
    show (x ++ s ++ Str.join s (y :: r)).cps.toList = _
    rw [show ∀ a b : PySem.Str, (a ++ b).cps.toList = a.cps.toList ++ b.cps.toList from fun a b => by show (a.cps ++ b.cps).toList = _; simp]
    rw [show ∀ a b : PySem.Str, (a ++ b).cps.toList = a.cps.toList ++ b.cps.toList from fun a b => by show (a.cps ++ b.cps).toList = _; simp, join_l s (y :: r)]
    rfl
theorem split_ne (x y : PySem.Str) : Txt.split x y ≠ [] := by
  intro h
  have h2 := StrLaws.join_split x y
  unfold Txt.split at h
  split at h
  · cases h
  · split at h
    · cases h
    · rw [StrLaws.partsBetween_eq] at h
      obtain ⟨p, r, e⟩ := StrLaws.partsFrom_ne x y.length 0 (Builtin.Str.occurrences x y 0 x.length (x.length + 1))
      rw [e] at h
      cases h
theorem split_S (l : List Nat) (c : Nat) : Txt.split (S l) (S [c]) = (splitL c l).map S := by
  have h1 := StrLaws.join_split (S l) (S [c])
  have h2 := StrLaws.split_free (S l) c
  have h3 := split_ne (S l) (S [c])
  change ∀ p ∈ Txt.split (S l) (S [c]), c ∉ p.cps.toList at h2
  generalize Txt.split (S l) (S [c]) = ps at *
  have h4 := congrArg (fun z => z.cps.toList) h1
  simp only [join_l, S_l] at h4
  have h5 := splitL_uniq (c := c) (ps := ps.map fun z => z.cps.toList) (l := l) (by simpa using h3) (fun p hp => by
    obtain ⟨q, hq, rfl⟩ := List.mem_map.mp hp
    exact h2 q hq) h4
  rw [h5, List.map_map]
  conv => lhs; rw [← List.map_id ps]
  refine List.map_congr_left fun z _ => ?_
  exact S_of z
theorem joinT_S (s : List Nat) (ps : List (List Nat)) : Txt.join (S s) (ps.map S) = S (joinL s ps) := by
  have e : Txt.join (S s) (ps.map S) = Str.join (S s) (ps.map S) := StrLaws.glued_eq_join _ _
  rw [e, S_of (Str.join _ _), join_l, List.map_map]
  congr 1
  rw [S_l]
  congr 1
  conv => rhs; rw [← List.map_id ps]
  exact List.map_congr_left fun z _ => S_l z
theorem joinL_nil : ∀ ps : List (List Nat), joinL [] ps = ps.flatten
  | [] => rfl
  | [x] => by simp [joinL]
  | x :: y :: r => by rw [joinL, joinL_nil (y :: r)]; simp
/-! startswith one sign -/
theorem sub_one (l : List Nat) (c i : Nat) : Builtin.Str.subAt (S l) (S [c]) i = (l[i]? == some c) := by
  rw [StrLaws.subAt_eq]
  simp only [S_l, S_n, List.length_cons, List.length_nil, Nat.zero_add]
  cases h : l.drop i with
  | nil =>
    have : l[i]? = none := by rw [List.getElem?_eq_none_iff]; have := congrArg List.length h; simp at this; omega
    rw [this]; rfl
  | cons d r =>
    have : l[i]? = some d := by
      have := congrArg (fun z => z[0]?) h
      simpa using this
    rw [this]
    simp
theorem starts_one (l : List Nat) (c : Nat) : Txt.startswith (S l) (S [c]) = (l.head? == some c) := by
  unfold Txt.startswith
  rw [sub_one]
  simp only [S_n, List.length_cons, List.length_nil]
  cases l <;> simp
/-! figures -/
def FigL (l : List Nat) : Prop := ∀ c ∈ l, 48 ≤ c ∧ c ≤ 57
instance (l : List Nat) : Decidable (FigL l) := inferInstanceAs (Decidable (∀ c ∈ l, _))
theorem toDigits_ge {n : Nat} (h : 10 ≤ n) : Nat.toDigits 10 n = Nat.toDigits 10 (n / 10) ++ [Nat.digitChar (n % 10)] := Nat.toDigits_of_base_le (by decide) h
def digs (n : Nat) : List Nat := (Nat.toDigits 10 n).map Char.toNat
theorem digs_lt {n : Nat} (h : n < 10) : digs n = [48 + n] := by
  have : n = 0 ∨ n = 1 ∨ n = 2 ∨ n = 3 ∨ n = 4 ∨ n = 5 ∨ n = 6 ∨ n = 7 ∨ n = 8 ∨ n = 9 := by omega
  rcases this with rfl | rfl | rfl | rfl | rfl | rfl | rfl | rfl | rfl | rfl <;> decide +kernel
theorem digs_ge {n : Nat} (h : 10 ≤ n) : digs n = digs (n / 10) ++ [48 + n % 10] := by
  unfold digs
  rw [toDigits_ge h, List.map_append]
  congr 1
  have : n % 10 < 10 := Nat.mod_lt _ (by decide)
  generalize n % 10 = d at *
  have : d = 0 ∨ d = 1 ∨ d = 2 ∨ d = 3 ∨ d = 4 ∨ d = 5 ∨ d = 6 ∨ d = 7 ∨ d = 8 ∨ d = 9 := by omega
  rcases this with rfl | rfl | rfl | rfl | rfl | rfl | rfl | rfl | rfl | rfl <;> decide +kernel
theorem str_digs (n : Nat) : Str.ofString (toString (n : Int)) = S (digs n) := by
  rw [S_of (Str.ofString _), PySem.W.KIN.signs_num]; rfl
theorem digs_fig (n : Nat) : FigL (digs n) := by
  intro c hc
  obtain ⟨d, hd, rfl⟩ := List.mem_map.mp hc
  have := Nat.isDigit_of_mem_toDigits (by decide) (by decide) hd
  simp only [Char.isDigit, Bool.and_eq_true, decide_eq_true_eq] at this
  exact ⟨this.1, this.2⟩
theorem digs_ne (n : Nat) : digs n ≠ [] := by
  by_cases h : n < 10
  · rw [digs_lt h]; simp
  · rw [digs_ge (by omega)]; simp
theorem digs_len {n k : Nat} (hk : 0 < k) (h : n < 10 ^ k) : (digs n).length ≤ k := by
  induction k generalizing n with
  | zero => omega
  | succ k ih =>
    by_cases h1 : n < 10
    · rw [digs_lt h1]; simp
    · rw [digs_ge (by omega), List.length_append]
      have h2 : n / 10 < 10 ^ k := by rw [Nat.pow_succ] at h; omega
      have hk : 0 < k := by
        cases k with
        | zero => simp at h; omega
        | succ k => omega
      have := ih hk h2
      simp; omega
/-- the value of figures -/
def valL (l : List Nat) : Nat := l.foldl (fun acc c => acc * 10 + (c - 48)) 0
theorem valL_snoc (l : List Nat) (c : Nat) : valL (l ++ [c]) = valL l * 10 + (c - 48) := by unfold valL; rw [List.foldl_append]; rfl
theorem valL_digs (n : Nat) : valL (digs n) = n := by
  induction n using Nat.strongRecOn with
  | ind n ih =>
    by_cases h : n < 10
    · rw [digs_lt h]; unfold valL; simp
    · rw [digs_ge (by omega), valL_snoc, ih (n / 10) (by omega)]; omega
theorem snocCases {α : Type} (l : List α) : l = [] ∨ ∃ r x, l = r ++ [x] := by
  cases h : l.reverse with
  | nil => left; simpa using h
  | cons x r => right; exact ⟨r.reverse, x, by have := congrArg List.reverse h; simpa using this⟩
theorem valL_lt {l : List Nat} (h : FigL l) : valL l < 10 ^ l.length := by
  generalize hn : l.length = n
  induction n generalizing l with
  | zero => have : l = [] := by simpa using hn
            subst this; decide
  | succ n ih =>
    rcases snocCases l with rfl | ⟨r, x, rfl⟩
    · simp at hn
    · have h1 := ih (l := r) (fun c hc => h c (List.mem_append_left _ hc)) (by simpa using hn)
      have h2 := h x (by simp)
      rw [valL_snoc, Nat.pow_succ]
      omega
/-- figures without a nought ahead are those of their value -/
theorem digs_val {l : List Nat} (h : FigL l) (h0 : l ≠ []) (hz : l.head? ≠ some 48 ∨ l = [48]) : digs (valL l) = l := by
  generalize hn : l.length = n
  induction n generalizing l with
  | zero => exact absurd (by simpa using hn) h0
  | succ n ih =>
    rcases snocCases l with rfl | ⟨r, x, rfl⟩
    · exact absurd rfl h0
    · have hx := h x (by simp)
      cases r with
      | nil =>
        have : valL ([] ++ [x]) = x - 48 := by rw [valL_snoc]; simp [valL]
        rw [this, digs_lt (by omega)]
        simp; omega
      | cons a r =>
        have ha := h a (by simp)
        have hz' : a ≠ 48 := by
          rcases hz with hz | hz
          · simpa using hz
          · simp at hz
        have e := ih (l := a :: r) (fun c hc => h c (List.mem_append_left _ hc)) (by simp) (.inl (by simpa using hz')) (by simpa using hn)
        have hp : 1 ≤ valL (a :: r) := by
          have : ∀ (r : List Nat) (k : Nat), 1 ≤ k → 1 ≤ r.foldl (fun acc c => acc * 10 + (c - 48)) k := by
            intro r
            induction r with
            | nil => intro k hk; exact hk
            | cons b r ih => intro k hk; exact ih _ (by show 1 ≤ k * 10 + (b - 48); omega)
          exact this r (0 * 10 + (a - 48)) (by omega)
        rw [valL_snoc, digs_ge (by omega), show (valL (a :: r) * 10 + (x - 48)) / 10 = valL (a :: r) by omega, show (valL (a :: r) * 10 + (x - 48)) % 10 = x - 48 by omega, e]
        congr 1
        simp; omega
theorem int_figs {l : List Nat} (h : FigL l) (h0 : l ≠ []) (hl : l.length ≤ 4300) : PySem.intText? (S l) = some ((valL l : Nat) : Int) := by
  have := PySem.intText_digits (x := S l) (by rw [S_l]; exact h) (by rw [S_l]; exact h0) (by rw [S_n]; exact hl)
  rw [this, S_l]
  rfl
section
variable {t : Tg} {a : DE} {A : DT} {ρ : PEnv} {τ : TS'} {α : Type}
theorem lcL_mapOf {mk f : α → DD} : ∀ {xs : List α}, (∀ x ∈ xs, ∃ ρ1, tgF t (mk x) ρ = some ρ1 ∧ a ρ1 τ = .ok (f x) τ) → lcL t dYes a ρ (xs.map mk) τ = .ok (xs.map f) τ
  | [], _ => rfl
  | x :: xs, h => by
    obtain ⟨ρ1, h1, h2⟩ := h x List.mem_cons_self
    rw [List.map_cons, lcL, h1]
    simp only [ev_Yes, R.nox_ok, R.bind_ok, if_true, h2]
    rw [lcL_mapOf fun d hd => h d (List.mem_cons_of_mem _ hd)] <;> rfl
theorem lcL_fmapOf {mk f : α → DD} {p : α → Bool} : ∀ {xs : List α}, (∀ x ∈ xs, ∃ ρ1, tgF t (mk x) ρ = some ρ1 ∧ A ρ1 τ = .ok (p x) τ ∧ (p x = true → a ρ1 τ = .ok (f x) τ)) → lcL t A a ρ (xs.map mk) τ = .ok ((xs.filter p).map f) τ
  | [], _ => rfl
  | x :: xs, h => by
    obtain ⟨ρ1, h1, h2, h3⟩ := h x List.mem_cons_self
    have ih := lcL_fmapOf (p := p) (f := f) (xs := xs) fun d hd => h d (List.mem_cons_of_mem _ hd)
    rw [List.map_cons, lcL, h1]
    simp only [h2, R.nox_ok, R.bind_ok]
    cases hp : p x with
    | false => rw [List.filter_cons_of_neg (by rw [hp]; decide)]; simp [ih]
    | true => rw [List.filter_cons_of_pos hp]; simp [h3 hp, ih]
@[simp] theorem bls?_mapf {f : α → Bool} (xs : List α) : bls? (xs.map fun x => DD.bl (f x)) = some (xs.map f) := by
  rw [← bls?_map, List.map_map]; rfl
@[simp] theorem ints?_mapf {f : α → Int} (xs : List α) : ints? (xs.map fun x => DD.int (f x)) = some (xs.map f) := by
  rw [← ints?_map, List.map_map]; rfl
@[simp] theorem strs?_mapf {f : α → PySem.Str} (xs : List α) : strs? (xs.map fun x => DD.str (f x)) = some (xs.map f) := by
  rw [← strs?_map, List.map_map]; rfl
end
@[simp] theorem atI_0 {α : Type} {x : α} {xs : List α} : atI (x :: xs) 0 = some x := by
  have : atI (x :: xs) ((0 : Nat) : Int) = some x := atI_nat rfl
  exact this
@[simp] theorem atI_1 {α : Type} {x y : α} {xs : List α} : atI (x :: y :: xs) 1 = some y := by
  have : atI (x :: y :: xs) ((1 : Nat) : Int) = some y := atI_nat rfl
  exact this
@[simp] theorem atI_2 {α : Type} {x y z : α} {xs : List α} : atI (x :: y :: z :: xs) 2 = some z := by
  have : atI (x :: y :: z :: xs) ((2 : Nat) : Int) = some z := atI_nat rfl
  exact this
@[simp] theorem atI_3 {α : Type} {x y z w : α} {xs : List α} : atI (x :: y :: z :: w :: xs) 3 = some w := by
  have : atI (x :: y :: z :: w :: xs) ((3 : Nat) : Int) = some w := atI_nat rfl
  exact this
@[simp] theorem atI_4 {α : Type} {x y z w u : α} {xs : List α} : atI (x :: y :: z :: w :: u :: xs) 4 = some u := by
  have : atI (x :: y :: z :: w :: u :: xs) ((4 : Nat) : Int) = some u := atI_nat rfl
  exact this
/-- right code points -/
def Cp (l : List Nat) : Prop := ∀ c ∈ l, c < 1114112
theorem Tx.S {n : Nat} {l : List Nat} (h : l.length ≤ n) (c : Cp l) : Tx n (Np.S l) := ⟨by rw [S_n]; exact h, by rw [S_l]; exact c⟩
theorem Tx.of {n : Nat} {l : List Nat} (h : Tx n (Np.S l)) : l.length ≤ n ∧ Cp l := ⟨by have := h.len; rwa [S_n] at this, by have := h.ok; rwa [S_l] at this⟩
theorem shaped_strs {ns : List PySem.Str} (h : ∀ x ∈ ns, PyData.strOk x = true) : SeqAt.shaped (.list (ns.map PyData.str)) = true := Fine.shaped (k := 1) (Fine.list fun d hd => by
  obtain ⟨x, hx, rfl⟩ := List.mem_map.mp hd
  exact Fine.str (h x hx))
theorem ne_nil_strs {α : Type} {f : α → List Nat} {xs : List α} (h : ∀ x ∈ xs, Cp (f x)) : gNeD (.lst (xs.map fun x => .str (S (f x)))) (.lst []) = some (.bl (!xs.isEmpty)) := by
  have e : (xs.map fun x => DD.str (S (f x))) = (xs.map fun x => S (f x)).map DD.str := by rw [List.map_map]; rfl
  show py2 _ _ _ = _
  rw [e, py2_eqs (toPy_strs _) toPy_nil (shaped_strs fun y hy => by
    obtain ⟨x, hx, rfl⟩ := List.mem_map.mp hy
    exact (Tx.S (Nat.le_refl _) (h x hx)).strOk) rfl, eqv_nil, List.isEmpty_map, List.isEmpty_map]
theorem eq_nil_strs {α : Type} {f : α → List Nat} {xs : List α} (h : ∀ x ∈ xs, Cp (f x)) : gEqD (.lst (xs.map fun x => .str (S (f x)))) (.lst []) = some (.bl xs.isEmpty) := by
  have e : (xs.map fun x => DD.str (S (f x))) = (xs.map fun x => S (f x)).map DD.str := by rw [List.map_map]; rfl
  show py2 _ _ _ = _
  rw [e, py2_eqs (toPy_strs _) toPy_nil (shaped_strs fun y hy => by
    obtain ⟨x, hx, rfl⟩ := List.mem_map.mp hy
    exact (Tx.S (Nat.le_refl _) (h x hx)).strOk) rfl, eqv_nil, List.isEmpty_map, List.isEmpty_map]
theorem stripBy_S (g : Nat → Bool) (lf rt : Bool) (l : List Nat) : ∃ a b, Txt.stripBy g lf rt (S l) = S ((l.drop a).take b) := by
  have sub : ∀ a b, Builtin.Str.strSub (S l) a b = S ((l.drop a).take (b - a)) := fun a b => by
    rw [S_of (Builtin.Str.strSub (S l) a b)]
    congr 1
    show ((S l).cps.extract a b).toList = _
    simp [S, List.extract_eq_take_drop]
  unfold Txt.stripBy
  split
  · exact ⟨0, l.length, by simp⟩
  · exact ⟨_, _, sub _ _⟩
theorem Cp.sub {l m : List Nat} (h : Cp m) (s : ∀ c ∈ l, c ∈ m) : Cp l := fun c hc => h c (s c hc)
theorem Cp.app {l m : List Nat} (h : Cp l) (k : Cp m) : Cp (l ++ m) := fun c hc => (List.mem_append.mp hc).elim (h c) (k c)
theorem Cp.take {l : List Nat} (h : Cp l) (n : Nat) : Cp (l.take n) := h.sub fun _ hc => List.mem_of_mem_take hc
theorem Cp.drop {l : List Nat} (h : Cp l) (n : Nat) : Cp (l.drop n) := h.sub fun _ hc => List.mem_of_mem_drop hc
theorem Cp.rev {l : List Nat} (h : Cp l) : Cp l.reverse := h.sub fun _ hc => by simpa using hc
theorem Cp.cons {l : List Nat} {c : Nat} (hc : c < 1114112) (h : Cp l) : Cp (c :: l) := fun x hx => by
  rcases List.mem_cons.mp hx with rfl | hx
  · exact hc
  · exact h x hx
theorem Cp.nil : Cp [] := fun x hx => by cases hx
theorem all_signs {ys : List DD} {P : Nat → Prop} (h : ∀ y ∈ ys, ∃ c, y = .str (S [c]) ∧ P c) : ∃ cs : List Nat, ys = cs.map (fun c => DD.str (S [c])) ∧ ∀ c ∈ cs, P c := by
  induction ys with
  | nil => exact ⟨[], rfl, fun c hc => by cases hc⟩
  | cons y ys ih =>
    obtain ⟨cs, e, q⟩ := ih fun y hy => h y (List.mem_cons_of_mem _ hy)
    obtain ⟨c, e2, q2⟩ := h y List.mem_cons_self
    refine ⟨c :: cs, by rw [e, e2]; rfl, fun x hx => ?_⟩
    rcases List.mem_cons.mp hx with rfl | hx
    · exact q2
    · exact q x hx
theorem flatten_ones : ∀ cs : List Nat, (cs.map fun c => [c]).flatten = cs
  | [] => rfl
  | c :: cs => by simp [flatten_ones cs]
theorem join_gen {s : List Nat} {ps : List (List Nat)} (h : (ps.map (·.length)).sum + ps.length * s.length ≤ 16777216) : gJoin (S s) [.lst (ps.map fun p => DD.str (S p))] = some (.str (S (joinL s ps))) := by
  have e := joinT_S s ps
  have e2 : (ps.map fun p => DD.str (S p)) = (ps.map S).map DD.str := by rw [List.map_map]; rfl
  unfold gJoin
  rw [e2]
  simp only [items?, Option.bind_some, strs?_map]
  rw [e, if_pos]
  rw [List.map_map, List.length_map, S_n, show ((fun x : PySem.Str => x.length) ∘ S) = (fun x => x.length) from funext fun x => S_n x]
  exact h
theorem sum_ones {α : Type} (cs : List α) : (cs.map fun _ => 1).sum = cs.length := by
  induction cs with
  | nil => rfl
  | cons c cs ih => simp [ih]; omega
theorem join_signs {cs : List Nat} (h : cs.length ≤ 16777216) : gJoin (S []) [.lst (cs.map fun c => DD.str (S [c]))] = some (.str (S cs)) := by
  have := join_gen (s := []) (ps := cs.map fun c => [c]) (by
    rw [List.map_map]
    have := sum_ones cs
    simp only [Function.comp_def, List.length_cons, List.length_nil, Nat.zero_add, Nat.mul_zero, Nat.add_zero]
    rw [sum_ones]; exact h)
  rw [List.map_map, joinL_nil, flatten_ones] at this
  exact this
theorem cutL_mid {α : Type} {xs : List α} {a b : Int} (h0 : 0 ≤ a) (h1 : 0 ≤ b) : cutL xs (some a) (some b) = (xs.drop a.toNat).take (b.toNat - a.toNat) := by
  unfold cutL HT.sIx
  simp only
  rw [if_neg (by omega), if_neg (by omega)]
  by_cases h : a.toNat ≤ xs.length
  · rw [Nat.min_eq_left h]
    by_cases h2 : b.toNat ≤ xs.length
    · rw [Nat.min_eq_left h2]
    · rw [Nat.min_eq_right (by omega), List.take_of_length_le (by rw [List.length_drop]; omega), List.take_of_length_le (by rw [List.length_drop]; omega)]
  · rw [Nat.min_eq_right (a := a.toNat) (by omega), List.drop_length, List.drop_eq_nil_of_le (by omega)]
    simp
theorem splitL_len (c : Nat) : ∀ (l : List Nat), ∀ p ∈ splitL c l, p.length ≤ l.length
  | [], p, h => by simp [splitL] at h; subst h; simp
  | x :: xs, p, h => by
    have ih := splitL_len c xs
    unfold splitL at h
    split at h
    · rcases List.mem_cons.mp h with rfl | h
      · simp
      · have := ih p h; simp; omega
    · split at h
      · rename_i hd tl e
        rcases List.mem_cons.mp h with rfl | h
        · have := ih hd (by rw [e]; simp)
          simp; omega
        · have := ih p (by rw [e]; exact List.mem_cons_of_mem _ h)
          simp; omega
      · have : p = [x] := by simpa using h
        subst this; simp
theorem splitL_cnt (c : Nat) : ∀ (l : List Nat), (splitL c l).length ≤ l.length + 1
  | [] => by simp [splitL]
  | x :: xs => by
    have ih := splitL_cnt c xs
    unfold splitL
    split
    · simp; omega
    · split
      · rename_i e; rw [e] at ih; simp at ih ⊢; omega
      · simp
theorem splitL_cp (c : Nat) {l : List Nat} (h : Cp l) : ∀ p ∈ splitL c l, Cp p := by
  induction l with
  | nil => intro p hp; simp [splitL] at hp; subst hp; intro x hx; cases hx
  | cons x xs ih =>
    have hx : Cp xs := fun y hy => h y (List.mem_cons_of_mem _ hy)
    have ih := ih hx
    intro p hp
    unfold splitL at hp
    split at hp
    · rcases List.mem_cons.mp hp with rfl | hp
      · intro y hy; cases hy
      · exact ih p hp
    · split at hp
      · rename_i hd tl e
        rcases List.mem_cons.mp hp with rfl | hp
        · intro y hy
          rcases List.mem_cons.mp hy with rfl | hy
          · exact h _ List.mem_cons_self
          · exact ih hd (by rw [e]; simp) y hy
        · exact ih p (by rw [e]; exact List.mem_cons_of_mem _ hp)
      · have : p = [x] := by simpa using hp
        subst this
        intro y hy
        have : y = x := by simpa using hy
        subst this
        exact h _ List.mem_cons_self
theorem joinL_split (c : Nat) : ∀ l, joinL [c] (splitL c l) = l
  | [] => rfl
  | x :: xs => by
    have ih := joinL_split c xs
    have hne := splitL_ne c xs
    unfold splitL
    split
    · rename_i e
      subst e
      cases h : splitL x xs with
      | nil => exact absurd h hne
      | cons a b => rw [h] at ih; simp [joinL, ih]
    · cases h : splitL c xs with
      | nil => exact absurd h hne
      | cons a b =>
        rw [h] at ih
        simp only
        cases b with
        | nil => simp [joinL] at ih ⊢; exact ih
        | cons d r => simp [joinL] at ih ⊢; exact ih
theorem log_of_lt {n k : Nat} (h : n < 2 ^ k) (hk : 0 < k) : n.log2 < k := by
  by_cases h0 : n = 0
  · subst h0; exact hk
  · exact (Nat.log2_lt h0).mpr h
end Np

set_option Elab.async false
set_option linter.all false
set_option maxRecDepth 100000
set_option maxHeartbeats 4000000
namespace Np
open PySem L2
section
variable {ρ ρ1 : PEnv} {τ τ1 : TS'} {δ : DS} {a b : DE} {d : DD} {x : Ex} {C : OC} {i j : Nat} {exm kit : PySem.Str → Option Bool} {ok : PySem.Str → Bool}
/-! try, kept exceptions -/
def eTryK (r : R Ct) (exm : PySem.Str → Option Bool) (i j : Nat) : R Ct := match r with
  | .ok (.xc x ρ1) τ1 => match exm x.cls with
    | some true => if i < ρ1.length then .ok (.nx ((ρ1.set j (some (.fr (.exc x.cls x.fs)))).set i none)) τ1 else .no
    | some false => .ok (.xc x ρ1) τ1
    | none => .no
  | r => r
def eTx (o : Option Bool) (x : Ex) (ρ1 : PEnv) (τ1 : TS') (i j : Nat) : R Ct := match o with
  | some true => if i < ρ1.length then .ok (.nx ((ρ1.set j (some (.fr (.exc x.cls x.fs)))).set i none)) τ1 else .no
  | some false => .ok (.xc x ρ1) τ1
  | none => .no
@[simp] theorem ev_TryK : dTryK exm i j δ ρ τ = eTryK (δ ρ τ) exm i j := id rfl
@[simp] theorem eTryK_nx : eTryK (.ok (.nx ρ) τ) exm i j = .ok (.nx ρ) τ := id rfl
@[simp] theorem eTryK_rt : eTryK (.ok (.rt d) τ) exm i j = .ok (.rt d) τ := id rfl
@[simp] theorem eTryK_bk : eTryK (.ok (.bk ρ) τ) exm i j = .ok (.bk ρ) τ := id rfl
@[simp] theorem eTryK_ct : eTryK (.ok (.ct ρ) τ) exm i j = .ok (.ct ρ) τ := id rfl
@[simp] theorem eTryK_xc : eTryK (.ok (.xc x ρ) τ) exm i j = eTx (exm x.cls) x ρ τ i j := id rfl
@[simp] theorem eTx_t : eTx (some true) x ρ τ i j = if i < ρ.length then .ok (.nx ((ρ.set j (some (.fr (.exc x.cls x.fs)))).set i none)) τ else .no := id rfl
@[simp] theorem eTx_f : eTx (some false) x ρ τ i j = .ok (.xc x ρ) τ := id rfl
@[simp] theorem tb_eq {A : PySem.Str} {v : Bool} {r : PySem.Str → Option Bool} : tb A v r A = some v := if_pos rfl
theorem tb_ne {A s : PySem.Str} {v : Bool} {r : PySem.Str → Option Bool} (h : s ≠ A) : tb A v r s = r s := if_neg h
def eIsX (r : R DD) (kit : PySem.Str → Option Bool) : R DD := r.bind fun x τ1 => match x with
  | .exc C _ => R.of τ1 ((kit C).map .bl)
  | _ => .no
@[simp] theorem ev_IsX : dIsX kit a ρ τ = eIsX (a ρ τ) kit := id rfl
@[simp] theorem eIsX_ok {A : PySem.Str} {fs : List (PySem.Str × DD)} : eIsX (.ok (.exc A fs) τ) kit = R.of τ ((kit A).map .bl) := id rfl
def eFx (r : R DD) (ok : PySem.Str → Bool) (f : PySem.Str) : R DD := r.bind fun x τ1 => match x with
  | .exc C fs => if ok C = true then R.of τ1 (fs.lookup f) else .no
  | _ => .no
@[simp] theorem ev_Fx {f : PySem.Str} : dFx ok f a ρ τ = eFx (a ρ τ) ok f := id rfl
@[simp] theorem eFx_ok {A f : PySem.Str} {fs : List (PySem.Str × DD)} : eFx (.ok (.exc A fs) τ) ok f = if ok A = true then R.of τ (fs.lookup f) else .no := id rfl
@[simp] theorem gIsN_x {k : Bool} {A : PySem.Str} {fs : List (PySem.Str × DD)} : gIsN k (.exc A fs) .non = some (.bl k) := id rfl
@[simp] theorem gIsN_o {k : Bool} {A : PySem.Str} {fs : List (PySem.Str × DD)} : gIsN k (.obj A fs) .non = some (.bl k) := id rfl
@[simp] theorem gIsN_d {k : Bool} {fs : List (Key × DD)} : gIsN k (.dic fs) .non = some (.bl k) := id rfl
@[simp] theorem gIsi_d {T : String} {fs : List (Key × DD)} : gIsi T (.dic fs) = some (.bl (isT T "dict")) := id rfl
theorem ev_bodyN {n : Nat} {as : List PV} : bodyN n δ as τ = (eBody (δ (startP n as) τ) τ).nox := id rfl
@[simp] theorem R.nox_ex {α : Type} {x : Ex} : (R.ex x τ : R α).nox = .no := id rfl
def eOrU (r : R DD) (b : DE) (ρ : PEnv) : R DD := r.bind fun x τ1 => (R.of τ1 (tru x)).bind fun k τ2 => if k = true then .ok x τ2 else b ρ τ2
def eAndU (r : R DD) (b : DE) (ρ : PEnv) : R DD := r.bind fun x τ1 => (R.of τ1 (tru x)).bind fun k τ2 => if k = true then b ρ τ2 else .ok x τ2
def eOrU2 (o : Option Bool) (x : DD) (b : DE) (ρ : PEnv) (τ : TS') : R DD := (R.of τ o).bind fun k τ2 => if k = true then .ok x τ2 else b ρ τ2
def eAndU2 (o : Option Bool) (x : DD) (b : DE) (ρ : PEnv) (τ : TS') : R DD := (R.of τ o).bind fun k τ2 => if k = true then b ρ τ2 else .ok x τ2
@[simp] theorem ev_OrU : dOrU a b ρ τ = eOrU (a ρ τ) b ρ := id rfl
@[simp] theorem ev_AndU : dAndU a b ρ τ = eAndU (a ρ τ) b ρ := id rfl
@[simp] theorem eOrU_ok : eOrU (.ok d τ) b ρ = eOrU2 (tru d) d b ρ τ := id rfl
@[simp] theorem eAndU_ok : eAndU (.ok d τ) b ρ = eAndU2 (tru d) d b ρ τ := id rfl
@[simp] theorem eOrU2_t : eOrU2 (some true) d b ρ τ = .ok d τ := id rfl
@[simp] theorem eOrU2_f : eOrU2 (some false) d b ρ τ = b ρ τ := id rfl
@[simp] theorem eAndU2_t : eAndU2 (some true) d b ρ τ = b ρ τ := id rfl
@[simp] theorem eAndU2_f : eAndU2 (some false) d b ρ τ = .ok d τ := id rfl
theorem forL_nm {xs : List DD} : forL (.nm i) δ (d :: xs) ρ τ = eTurn (δ (ρ.set i (some (.fr d))) τ) (.nm i) δ xs := forL_cons tgF_nm
theorem tru_S {l : List Nat} (h : l.length ≤ 16777216) : tru (.str (S l)) = some (!l.isEmpty) := by
  show (if (S l).length ≤ sizeLine then some (((S l).length : Int) != 0) else none) = _
  rw [S_n, sizeLine_eq, if_pos h]
  cases l with
  | nil => rfl
  | cons a b => rw [List.length_cons]; congr 1
/-! trees -/
def eTrF (r : R OC) : R OC := r.bind fun c τ1 => match ocT c with
  | .nd k ts => .ok (.tr k ts) τ1
  | .fr _ => .no
@[simp] theorem ev_TrF {φ : PEnv → TS' → R OC} : dTrF φ ρ τ = eTrF (φ ρ τ) := id rfl
@[simp] theorem eTrF_l {xs : List DD} : eTrF (.ok (.lst xs) τ) = .ok (.tr .lst (xs.map .fr)) τ := id rfl
@[simp] theorem ocT_l {xs : List DD} : ocT (.lst xs) = .nd .lst (xs.map .fr) := id rfl
@[simp] theorem ocT_t {k : Kd} {ts : List OT} : ocT (.tr k ts) = .nd k ts := id rfl
def eAppT (o : Option (Option PV)) (i : Nat) (φ : PEnv → TS' → R OC) (ρ : PEnv) (τ : TS') : R Ct := match o with
  | some (some (.ow (.tr .lst ts))) => stE (φ ρ τ) ρ fun c τ1 => if ts.length < sizeLine then .ok (.nx (ρ.set i (some (.ow (.tr .lst (ts ++ [ocT c])))))) τ1 else .no
  | _ => .no
def eAppT2 (r : R OC) (i : Nat) (ts : List OT) (ρ : PEnv) : R Ct := stE r ρ fun c τ1 => if ts.length < sizeLine then .ok (.nx (ρ.set i (some (.ow (.tr .lst (ts ++ [ocT c])))))) τ1 else .no
@[simp] theorem ev_AppT {φ : PEnv → TS' → R OC} : dAppT i φ ρ τ = eAppT ρ[i]? i φ ρ τ := id rfl
@[simp] theorem eAppT_ok {φ : PEnv → TS' → R OC} {ts : List OT} : eAppT (some (some (.ow (.tr .lst ts)))) i φ ρ τ = eAppT2 (φ ρ τ) i ts ρ := id rfl
@[simp] theorem eAppT2_ok {ts : List OT} : eAppT2 (.ok C τ) i ts ρ = if ts.length < 16777216 then .ok (.nx (ρ.set i (some (.ow (.tr .lst (ts ++ [ocT C])))))) τ else .no := by
  show (if ts.length < sizeLine then _ else _) = _
  rw [sizeLine_eq]
def eAppL (o : Option (Option PV)) (i : Nat) (e : DE) (ρ : PEnv) (τ : TS') : R Ct := match o with
  | some (some (.ow (.tr .lst ts))) => stE (e ρ τ) ρ fun d τ1 => if ts.length < sizeLine then .ok (.nx (ρ.set i (some (.ow (.tr .lst (ts ++ [.fr d])))))) τ1 else .no
  | _ => .no
def eAppL2 (r : R DD) (i : Nat) (ts : List OT) (ρ : PEnv) : R Ct := stE r ρ fun d τ1 => if ts.length < sizeLine then .ok (.nx (ρ.set i (some (.ow (.tr .lst (ts ++ [.fr d])))))) τ1 else .no
@[simp] theorem ev_AppL : dAppL i a ρ τ = eAppL ρ[i]? i a ρ τ := id rfl
@[simp] theorem eAppL_ok {ts : List OT} : eAppL (some (some (.ow (.tr .lst ts)))) i a ρ τ = eAppL2 (a ρ τ) i ts ρ := id rfl
@[simp] theorem eAppL2_ok {ts : List OT} : eAppL2 (.ok d τ) i ts ρ = if ts.length < 16777216 then .ok (.nx (ρ.set i (some (.ow (.tr .lst (ts ++ [.fr d])))))) τ else .no := by
  show (if ts.length < sizeLine then _ else _) = _
  rw [sizeLine_eq]
def eAppIx (o : Option (Option PV)) (i : Nat) (k e : DE) (ρ : PEnv) (τ : TS') : R Ct := match o with
  | some (some (.ow (.tr .lst ts))) => stE (k ρ τ) ρ fun n τ1 => match n with
    | .int n => match ixN ts.length n with
      | some j => match ts[j]? with
        | some (.nd .lst us) => stE (e ρ τ1) ρ fun d τ2 => if us.length < sizeLine then .ok (.nx (ρ.set i (some (.ow (.tr .lst (ts.set j (.nd .lst (us ++ [.fr d])))))))) τ2 else .no
        | _ => .no
      | none => .no
    | _ => .no
  | _ => .no
@[simp] theorem ev_AppIx {k : DE} : dAppIx i k a ρ τ = eAppIx ρ[i]? i k a ρ τ := id rfl
/-- x[-1].append(d) -/
theorem eAppIx_last {k : DE} {ts : List OT} {us : List OT} {τ2 : TS'} (hk : k ρ τ = .ok (.int (-1)) τ1) (he : a ρ τ1 = .ok d τ2) (hu : us.length < 16777216) : eAppIx (some (some (.ow (.tr .lst (ts ++ [.nd .lst us]))))) i k a ρ τ = .ok (.nx (ρ.set i (some (.ow (.tr .lst (ts ++ [.nd .lst (us ++ [.fr d])])))))) τ2 := by
  have e1 : ixN (ts ++ [OT.nd .lst us]).length (-1) = some ts.length := by
    unfold ixN
    rw [List.length_append]
    simp
    omega
  unfold eAppIx
  simp only [hk, stE_ok, e1]
  rw [show (ts ++ [OT.nd .lst us])[ts.length]? = some (.nd .lst us) by simp]
  simp only [he, stE_ok]
  rw [sizeLine_eq, if_pos hu, show (ts ++ [OT.nd .lst us]).set ts.length (.nd .lst (us ++ [.fr d])) = ts ++ [.nd .lst (us ++ [.fr d])] by simp]
@[simp] theorem ocD_t {k : Kd} {ts : List OT} : ocD (.tr k ts) = otD (.nd k ts) := id rfl
theorem otD_l {ts : List OT} : otD (.nd .lst ts) = .lst (otDs ts) := by rw [otD]
theorem otDs_map {α : Type} {f : α → OT} {g : α → DD} (h : ∀ x, otD (f x) = g x) : ∀ xs : List α, otDs (xs.map f) = xs.map g
  | [] => by rw [List.map_nil, otDs]; rfl
  | x :: xs => by rw [List.map_cons, otDs, h, otDs_map h xs]; rfl
@[simp] theorem gRepl_eq {y z w : PySem.Str} : gRepl y z (.str w) = if w.length + (w.length + 1) * z.length ≤ 16777216 then some (.str (Txt.replace w y z)) else none := id rfl
@[simp] theorem pickL_nil {α : Type} {dv us ws : List α} : pickL dv [] us ws = [] := id rfl
@[simp] theorem pickL_a0 {α : Type} {dv us ws : List α} {u : α} {ix : List Ix} : pickL dv (.a 0 :: ix) (u :: us) ws = u :: pickL dv ix (u :: us) ws := id rfl
theorem pickL_cons {α : Type} {dv us ws : List α} {i : Ix} {x : α} {ix : List Ix} (h : pick1 dv us ws i = some x) : pickL dv (i :: ix) us ws = x :: pickL dv ix us ws := by
  unfold pickL; rw [List.filterMap_cons_some h]
/-- lists of texts -/
def sL (ps : List (List Nat)) : List DD := ps.map fun p => .str (S p)
@[simp] theorem sL_nil : sL [] = [] := id rfl
@[simp] theorem sL_cons {p : List Nat} {ps : List (List Nat)} : sL (p :: ps) = .str (S p) :: sL ps := id rfl
@[simp] theorem sL_app {ps qs : List (List Nat)} : sL (ps ++ qs) = sL ps ++ sL qs := by unfold sL; rw [List.map_append]
@[simp] theorem sL_len {ps : List (List Nat)} : (sL ps).length = ps.length := by unfold sL; rw [List.length_map]
theorem split_sL (l : List Nat) (c : Nat) : (Txt.split (S l) (S [c])).map DD.str = sL (splitL c l) := by rw [split_S, List.map_map]; rfl
theorem join_sL {s : List Nat} {ps : List (List Nat)} (h : (ps.map (·.length)).sum + ps.length * s.length ≤ 16777216) : gJoin (S s) [.lst (sL ps)] = some (.str (S (joinL s ps))) := join_gen h
theorem cutL_sL {ps : List (List Nat)} {lo hi : Option Int} : cutL (sL ps) lo hi = sL (cutL ps lo hi) := by
  unfold cutL sL
  rw [List.length_map, List.map_take, List.map_drop]
theorem enumD_get {ds : List DD} {k : Nat} {d : DD} (h : (enumD ds)[k]? = some d) : ∃ x, ds[k]? = some x ∧ d = .tup [.int (k : Nat), x] := by
  unfold enumD at h
  rw [List.getElem?_mapIdx] at h
  obtain ⟨x, h1, h2⟩ := Option.map_eq_some_iff.mp h
  exact ⟨x, h1, h2.symm⟩
theorem enumD_len {ds : List DD} : (enumD ds).length = ds.length := by unfold enumD; rw [List.length_mapIdx]
theorem zipD_get {ds es : List DD} {k : Nat} {d : DD} (h : (zipD ds es)[k]? = some d) : ∃ x y, ds[k]? = some x ∧ es[k]? = some y ∧ d = .tup [x, y] := by
  unfold zipD at h
  rw [List.getElem?_zipWith] at h
  cases h1 : ds[k]? with
  | none => rw [h1] at h; cases h
  | some x =>
    cases h2 : es[k]? with
    | none => rw [h1, h2] at h; cases h
    | some y => rw [h1, h2] at h; exact ⟨x, y, rfl, rfl, (Option.some.inj h).symm⟩
theorem zipD_len {ds es : List DD} : (zipD ds es).length = min ds.length es.length := by unfold zipD; rw [List.length_zipWith]
theorem tgF_two {i j : Nat} {x y : DD} : tgF (.tp [.nm i, .nm j]) (.tup [x, y]) ρ = some ((ρ.set i (some (.fr x))).set j (some (.fr y))) := by simp
/-- blanks -/
theorem mul_one (c : Nat) (n : Nat) : Txt.mul (S [c]) (n : Int) = S (List.replicate n c) := by
  rw [S_of (Txt.mul (S [c]) (n : Int)), toList_mul, S_l]
  congr 1
  induction n with
  | zero => rfl
  | succ n ih => rw [List.replicate_succ, List.flatten_cons, ih, List.replicate_succ]; rfl
theorem mul_one' (c : Nat) (n : Int) : Txt.mul (S [c]) n = S (List.replicate n.toNat c) := by
  by_cases h : 0 ≤ n
  · obtain ⟨m, rfl⟩ := Int.eq_ofNat_of_zero_le h
    exact mul_one c m
  · unfold Txt.mul
    rw [if_pos (by omega), show n.toNat = 0 by omega]
    rfl
theorem cutL_init {α : Type} {xs : List α} : cutL xs none (some (-1)) = xs.dropLast := by
  unfold cutL HT.sIx
  simp only
  rw [if_pos (by omega), List.drop_zero, Nat.sub_zero, List.dropLast_eq_take]
  congr 1
  omega
theorem cutL_last {α : Type} {xs : List α} : cutL xs (some (-1)) none = xs.drop (xs.length - 1) := by
  unfold cutL HT.sIx
  simp only
  rw [if_pos (by omega), show (-1 + (xs.length : Int)).toNat = xs.length - 1 by omega]
  exact List.take_of_length_le (by rw [List.length_drop]; omega)
def ljL (w : Nat) (l : List Nat) : List Nat := l ++ List.replicate (w - l.length) 32
theorem ljust_S (l : List Nat) (w : Nat) : Txt.ljust (S l) (w : Int) = S (ljL w l) := by
  unfold Txt.ljust ljL
  rw [S_n]
  split
  · rename_i h
    rw [show w - l.length = 0 by omega]
    simp
  · rw [S_of (Builtin.Str.padded _ _ _ _)]
    congr 1
    show (Array.replicate 0 32 ++ (S l).cps ++ Array.replicate ((w : Int).toNat - l.length) 32).toList = _
    simp [S]
theorem ne_nil_rb {ds : List DD} {n k : Nat} (h : Rb n k (.lst ds)) (hk : k ≤ 64) : gNeD (.lst ds) (.lst []) = some (.bl (!ds.isEmpty)) := by
  obtain ⟨p, h1, h2⟩ := h.shaped hk
  show py2 _ _ _ = _
  rw [py2_eqs h1 toPy_nil h2 rfl]
  rw [toPy] at h1
  obtain ⟨ps, e, rfl⟩ := Option.map_eq_some_iff.mp h1
  rw [eqv_nil]
  cases ds with
  | nil => rw [toPys] at e; cases e; rfl
  | cons d ds =>
    cases ps with
    | cons q qs => rfl
    | nil =>
      rw [toPys] at e
      split at e
      · cases e
      · cases e
theorem eq_nil_rb {ds : List DD} {n k : Nat} (h : Rb n k (.lst ds)) (hk : k ≤ 64) : gEqD (.lst ds) (.lst []) = some (.bl ds.isEmpty) := by
  have := ne_nil_rb h hk
  obtain ⟨p, h1, h2⟩ := h.shaped hk
  have e1 : gNeD (.lst ds) (.lst []) = some (.bl (!PyData.eqv p (.list []))) := by
    show py2 _ _ _ = _
    rw [py2_eqs h1 toPy_nil h2 rfl]
  have e2 : gEqD (.lst ds) (.lst []) = some (.bl (PyData.eqv p (.list []))) := by
    show py2 _ _ _ = _
    rw [py2_eqs h1 toPy_nil h2 rfl]
  rw [e1] at this
  rw [e2]
  simp only [Option.some.injEq, DD.bl.injEq] at this ⊢
  cases h3 : PyData.eqv p (.list []) <;> cases h4 : ds.isEmpty <;> simp_all
def Cps (ps : List (List Nat)) : Prop := ∀ p ∈ ps, Cp p
theorem Cps.app {ps qs : List (List Nat)} (h : Cps ps) (k : Cps qs) : Cps (ps ++ qs) := fun p hp => (List.mem_append.mp hp).elim (h p) (k p)
theorem Cps.nil : Cps [] := fun p hp => by cases hp
theorem Cps.one {p : List Nat} (h : Cp p) : Cps [p] := fun q hq => by rw [List.mem_singleton.mp hq]; exact h
theorem ne_nil_sL {ps : List (List Nat)} (h : Cps ps) : gNeD (.lst (sL ps)) (.lst []) = some (.bl (!ps.isEmpty)) := ne_nil_strs (f := fun p => p) h
theorem eq_nil_sL {ps : List (List Nat)} (h : Cps ps) : gEqD (.lst (sL ps)) (.lst []) = some (.bl ps.isEmpty) := eq_nil_strs (f := fun p => p) h
theorem Cp.join {s : List Nat} (hs : Cp s) : ∀ {ps : List (List Nat)}, Cps ps → Cp (joinL s ps)
  | [], _ => Cp.nil
  | [x], h => h x (by simp)
  | x :: y :: r, h => ((h x (by simp)).app hs).app (Cp.join hs fun p hp => h p (List.mem_cons_of_mem _ hp))
theorem Cp.rep {c : Nat} (h : c < 1114112) (n : Nat) : Cp (List.replicate n c) := fun x hx => by rw [List.eq_of_mem_replicate hx]; exact h
theorem split_weight' (c : Nat) : ∀ l : List Nat, ((splitL c l).map (·.length)).sum + (splitL c l).length = l.length + 1
  | [] => by simp [splitL]
  | x :: xs => by
    have ih := split_weight' c xs
    have hne := splitL_ne c xs
    unfold splitL
    split
    · simp; omega
    · cases h : splitL c xs with
      | nil => exact absurd h hne
      | cons a b => rw [h] at ih; simp at ih ⊢; omega
end
end Np

set_option Elab.async false
set_option linter.all false
set_option maxRecDepth 100000
set_option maxHeartbeats 4000000
namespace Np
open PySem L2
section
variable {ρ : PEnv} {τ : TS'} {a b r : DA} {e : DE} {as bs : List DD} {n m : Nat} {cls f : PySem.Str} {names : List PySem.Str} {ix : List Ix}
/-! objects made and read, evaluated -/
def eMk1 (r : R (List DD)) (n m : Nat) (cls : PySem.Str) (names : List PySem.Str) (ix : List Ix) (b : DA) (ρ : PEnv) : R DD := r.bind fun as τ1 => (b ρ τ1).bind fun bs τ2 =>
  if as.length = n ∧ bs.length = m ∧ (pickL [] ix as bs).length = names.length then .ok (mkD cls names ix as bs) τ2 else .no
def eMk2 (r : R (List DD)) (n m : Nat) (cls : PySem.Str) (names : List PySem.Str) (ix : List Ix) (as : List DD) : R DD := r.bind fun bs τ2 =>
  if as.length = n ∧ bs.length = m ∧ (pickL [] ix as bs).length = names.length then .ok (mkD cls names ix as bs) τ2 else .no
@[simp] theorem ev_MkN : dMkN n m cls names ix a b ρ τ = eMk1 (a ρ τ) n m cls names ix b ρ := id rfl
@[simp] theorem eMk1_ok : eMk1 (.ok as τ) n m cls names ix b ρ = eMk2 (b ρ τ) n m cls names ix as := id rfl
@[simp] theorem eMk2_ok : eMk2 (.ok bs τ) n m cls names ix as = if as.length = n ∧ bs.length = m ∧ (pickL [] ix as bs).length = names.length then .ok (mkD cls names ix as bs) τ else .no := id rfl
def fldD (cls f : PySem.Str) : DD → Option DD
  | .obj C fs => if C = cls then fs.lookup f else none
  | _ => none
@[simp] theorem ev_Fld : dFld cls f e ρ τ = eUn (e ρ τ) (fldD cls f) := by
  unfold dFld eUn
  congr 1
  funext x τ1
  unfold fldD
  cases x <;> first | rfl | (dsimp only [R.of]; split <;> rfl)
theorem fldD_eq {fs : List (PySem.Str × DD)} : fldD cls f (.obj cls fs) = fs.lookup f := by
  show (if cls = cls then fs.lookup f else none) = _
  rw [if_pos rfl]
/-! walks -/
def eEnF1 (r : R (List DD)) (b : DA) (ρ : PEnv) : R (List DD) := r.bind fun x τ1 => (b ρ τ1).bind fun y τ2 => match x, y with
  | [.lst ds], [.int k0] => if -(2 ^ 63) ≤ k0 ∧ k0 < 2 ^ 63 then .ok (enumF k0 ds) τ2 else .no
  | _, _ => .no
def eEnF2 (r : R (List DD)) (x : List DD) : R (List DD) := r.bind fun y τ2 => match x, y with
  | [.lst ds], [.int k0] => if -(2 ^ 63) ≤ k0 ∧ k0 < 2 ^ 63 then .ok (enumF k0 ds) τ2 else .no
  | _, _ => .no
@[simp] theorem ev_IEnumF : dIEnumF a b ρ τ = eEnF1 (a ρ τ) b ρ := id rfl
@[simp] theorem eEnF1_ok : eEnF1 (.ok as τ) b ρ = eEnF2 (b ρ τ) as := id rfl
@[simp] theorem eEnF2_ok {ds : List DD} {k0 : Int} : eEnF2 (.ok [.int k0] τ) [.lst ds] = if -(2 ^ 63) ≤ k0 ∧ k0 < 2 ^ 63 then .ok (enumF k0 ds) τ else .no := id rfl
def rg3 : List DD → Option (List DD)
  | [.int i, .int j, .int c] => if RgC i j c (Builtin.Range.rangeSize i j c).toNat then some (rangeC i c (Builtin.Range.rangeSize i j c).toNat) else none
  | _ => none
theorem rg3_eq {i j c : Int} {n : Nat} (h : RgC i j c n) : rg3 [.int i, .int j, .int c] = some (rangeC i c n) := by
  have e : (Builtin.Range.rangeSize i j c).toNat = n := by rw [h.2.2.2]; simp
  show (if RgC i j c (Builtin.Range.rangeSize i j c).toNat then some (rangeC i c (Builtin.Range.rangeSize i j c).toNat) else none) = _
  rw [e, if_pos h]
@[simp] theorem ev_IR3 : dIR3 r ρ τ = eUn (r ρ τ) rg3 := by
  unfold dIR3 eUn
  congr 1
  funext x τ1
  unfold rg3
  rcases x with _ | ⟨d, _ | ⟨e, _ | ⟨f, _ | ⟨g, x⟩⟩⟩⟩
  · rfl
  · cases d <;> rfl
  · cases d <;> cases e <;> rfl
  · cases d <;> cases e <;> cases f <;> first | rfl | (dsimp only [R.of]; split <;> rfl)
  · cases d <;> cases e <;> cases f <;> rfl
@[simp] theorem c3_eq {g : DD → DD → DD → Option DD} {x y z : DD} : c3 g [x, y, z] = g x y z := id rfl
@[simp] theorem gMin3_eq {i j k : Int} : gMin3 (.int i) (.int j) (.int k) = some (.int (min3 i j k)) := id rfl
@[simp] theorem gSortI_ints (ns : List Int) : gSortI (.lst (ns.map DD.int)) = some (.lst ((sortI ns).map DD.int)) := by
  have e : ints? (ns.map DD.int) = some ns := by
    induction ns with
    | nil => rfl
    | cons n ns ih => rw [List.map_cons, ints?, ih]; rfl
  show (ints? (ns.map DD.int)).map _ = _
  rw [e]
  rfl
theorem enumF_get {k0 : Int} {ds : List DD} {k : Nat} {d : DD} (h : (enumF k0 ds)[k]? = some d) : ∃ x, ds[k]? = some x ∧ d = .tup [.int (k0 + (k : Nat)), x] := by
  unfold enumF at h
  rw [List.getElem?_mapIdx] at h
  obtain ⟨x, hx, rfl⟩ := Option.map_eq_some_iff.mp h
  exact ⟨x, hx, rfl⟩
theorem enumF_len {k0 : Int} {ds : List DD} : (enumF k0 ds).length = ds.length := by unfold enumF; rw [List.length_mapIdx]
theorem tgF_three {i j l : Nat} {x y z : DD} : tgF (.tp [.nm i, .nm j, .nm l]) (.tup [x, y, z]) ρ = some (((ρ.set i (some (.fr x))).set j (some (.fr y))).set l (some (.fr z))) := by simp
end
end Np

set_option Elab.async false
set_option linter.all false
set_option maxRecDepth 100000
set_option maxHeartbeats 4000000
namespace Np
open PySem PySem.Spec PyProof.Rows L2
/-! evaluation of what own classes bring -/
section
variable {ρ : PEnv} {τ τ' : TS'} {a b e : DE} {r : DA} {ps qs : DPs} {k n m : Nat} {F : Fn} {FI : FnI} {FO : FnO} {g : List PV → List PV → List PV} {as bs : List PV} {cls mm f : PySem.Str} {fs gs : List (PySem.Str × DD)} {d x y : DD}
noncomputable def eMkP2 (r : R (List PV)) (k n m : Nat) (F : FnI) (g : List PV → List PV → List PV) (as : List PV) : R DD := r.bind fun bs τ2 => if as.length = n ∧ bs.length = m ∧ (g as bs).length + 1 = k then allX F (g as bs) τ2 else .no
noncomputable def eMkP1 (r : R (List PV)) (k n m : Nat) (F : FnI) (g : List PV → List PV → List PV) (b : DPs) (ρ : PEnv) : R DD := r.bind fun as τ1 => eMkP2 (b ρ τ1) k n m F g as
@[simp] theorem ev_MkP : dMkP k n m FI g ps qs ρ τ = eMkP1 (ps ρ τ) k n m FI g qs ρ := id rfl
@[simp] theorem eMkP1_ok : eMkP1 (.ok as τ) k n m FI g qs ρ = eMkP2 (qs ρ τ) k n m FI g as := id rfl
@[simp] theorem eMkP2_ok : eMkP2 (.ok bs τ) k n m FI g as = if as.length = n ∧ bs.length = m ∧ (g as bs).length + 1 = k then allX FI (g as bs) τ else .no := id rfl
noncomputable def eMkN2 (r : R (List PV)) (k n m : Nat) (F : FnI) (g : List PV → List PV → List PV) (as : List PV) : R DD := r.bind fun bs τ2 => if as.length = n ∧ bs.length = m ∧ (g as bs).length + 1 = k then (allX F (g as bs) τ2).nox else .no
noncomputable def eMkN1 (r : R (List PV)) (k n m : Nat) (F : FnI) (g : List PV → List PV → List PV) (b : DPs) (ρ : PEnv) : R DD := r.bind fun as τ1 => eMkN2 (b ρ τ1) k n m F g as
@[simp] theorem ev_MkN' : dMkN' k n m FI g ps qs ρ τ = eMkN1 (ps ρ τ) k n m FI g qs ρ := id rfl
@[simp] theorem eMkN1_ok : eMkN1 (.ok as τ) k n m FI g qs ρ = eMkN2 (qs ρ τ) k n m FI g as := id rfl
@[simp] theorem eMkN2_ok : eMkN2 (.ok bs τ) k n m FI g as = if as.length = n ∧ bs.length = m ∧ (g as bs).length + 1 = k then (allX FI (g as bs) τ).nox else .no := id rfl
/-! methods -/
def eMeN2 (r : R (List PV)) (k : Nat) (F : Fn) (x : DD) : R DD := r.bind fun as τ2 => if as.length + 1 = k then (F (.fr x :: as) τ2).nox else .no
def eMeN1 (r : R DD) (k : Nat) (cls m : PySem.Str) (F : Fn) (ps : DPs) (ρ : PEnv) : R DD := r.bind fun x τ1 => match x with
  | .obj C fs => if C = cls ∧ fs.lookup m = none then eMeN2 (ps ρ τ1) k F (.obj C fs) else .no
  | _ => .no
@[simp] theorem ev_MethN : dMethN k cls mm F a ps ρ τ = eMeN1 (a ρ τ) k cls mm F ps ρ := by
  unfold dMethN eMeN1
  congr 1
@[simp] theorem eMeN1_ok : eMeN1 (.ok (.obj cls fs) τ) k cls mm F ps ρ = if fs.lookup mm = none then eMeN2 (ps ρ τ) k F (.obj cls fs) else .no := by
  simp only [eMeN1, R.bind_ok, true_and]
@[simp] theorem eMeN2_ok : eMeN2 (.ok as τ) k F x = if as.length + 1 = k then (F (.fr x :: as) τ).nox else .no := id rfl
def eMeO2 (r : R (List PV)) (k : Nat) (F : FnO) (x : DD) : R OC := r.bind fun as τ2 => if as.length + 1 = k then (F (.fr x :: as) τ2).nox else .no
def eMeO1 (r : R DD) (k : Nat) (cls m : PySem.Str) (F : FnO) (ps : DPs) (ρ : PEnv) : R OC := r.bind fun x τ1 => match x with
  | .obj C fs => if C = cls ∧ fs.lookup m = none then eMeO2 (ps ρ τ1) k F (.obj C fs) else .no
  | _ => .no
@[simp] theorem ev_MethON : dMethON k cls mm FO a ps ρ τ = eMeO1 (a ρ τ) k cls mm FO ps ρ := by
  unfold dMethON eMeO1
  congr 1
@[simp] theorem eMeO1_ok : eMeO1 (.ok (.obj cls fs) τ) k cls mm FO ps ρ = if fs.lookup mm = none then eMeO2 (ps ρ τ) k FO (.obj cls fs) else .no := by
  simp only [eMeO1, R.bind_ok, true_and]
@[simp] theorem eMeO2_ok : eMeO2 (.ok as τ) k FO x = if as.length + 1 = k then (FO (.fr x :: as) τ).nox else .no := id rfl
/-! len, str, repr, bool -/
def eSp (r : R (List DD)) (cls : PySem.Str) (F : Fn) (h : DD → TS' → R DD) : R DD := r.bind fun xs τ1 => match xs with
  | [.obj C fs] => if C = cls then (F [.fr (.obj C fs)] τ1).nox.bind h else .no
  | _ => .no
def hLen (d : DD) (τ2 : TS') : R DD := match d with
  | .int n => if 0 ≤ n ∧ n < 2 ^ 63 then .ok (.int n) τ2 else .no
  | _ => .no
def hStr (d : DD) (τ2 : TS') : R DD := match d with
  | .str z => .ok (.str z) τ2
  | _ => .no
def hBool (d : DD) (τ2 : TS') : R DD := match d with
  | .int n => if 0 ≤ n ∧ n < 2 ^ 63 then .ok (.bl (n != 0)) τ2 else .no
  | _ => .no
@[simp] theorem ev_LenO : dLenO cls F r ρ τ = eSp (r ρ τ) cls F hLen := id rfl
@[simp] theorem ev_StrO : dStrO cls F r ρ τ = eSp (r ρ τ) cls F hStr := id rfl
@[simp] theorem ev_BoolO : dBoolO cls F r ρ τ = eSp (r ρ τ) cls F hBool := id rfl
@[simp] theorem eSp_ok {h : DD → TS' → R DD} : eSp (.ok [.obj cls fs] τ) cls F h = (F [.fr (.obj cls fs)] τ).nox.bind h := if_pos rfl
@[simp] theorem hLen_ok {i : Int} : hLen (.int i) τ = if 0 ≤ i ∧ i < 9223372036854775808 then .ok (.int i) τ else .no := id rfl
@[simp] theorem hBool_ok {i : Int} : hBool (.int i) τ = if 0 ≤ i ∧ i < 9223372036854775808 then .ok (.bl (i != 0)) τ else .no := id rfl
@[simp] theorem hStr_ok {z : PySem.Str} : hStr (.str z) τ = .ok (.str z) τ := id rfl
/-! ==, in -/
def eEqO2 (r : R DD) (neg : Bool) (cls : PySem.Str) (F : Fn) (x : DD) : R DD := r.bind fun y τ2 => match x with
  | .obj C fs => if C = cls ∧ sideY cls y = true then (toB (F [.fr (.obj C fs), .fr y] τ2)).bind fun r τ3 => .ok (.bl (xor neg r)) τ3 else .no
  | _ => .no
def eEqO1 (r : R DD) (neg : Bool) (cls : PySem.Str) (F : Fn) (b : DE) (ρ : PEnv) : R DD := r.bind fun x τ1 => eEqO2 (b ρ τ1) neg cls F x
@[simp] theorem ev_EqO {neg : Bool} : dEqO neg cls F a b ρ τ = eEqO1 (a ρ τ) neg cls F b ρ := by
  unfold dEqO eEqO1
  congr 1
  funext x τ1
  unfold eEqO2
  congr 1
  funext y τ2
  cases x <;> first | rfl | skip
  dsimp only
  rename_i C fs
  by_cases h : C = cls ∧ sideY cls y = true
  · rw [if_pos h, if_pos h]
    generalize F [.fr (.obj C fs), .fr y] τ2 = R0
    cases R0 with
    | ok d t => cases d <;> rfl
    | ex _ _ => rfl
    | no => rfl
  · rw [if_neg h, if_neg h]
@[simp] theorem eEqO1_ok {neg : Bool} : eEqO1 (.ok x τ) neg cls F b ρ = eEqO2 (b ρ τ) neg cls F x := id rfl
@[simp] theorem eEqO2_ok {neg : Bool} : eEqO2 (.ok y τ) neg cls F (.obj cls fs) = if sideY cls y = true then (toB (F [.fr (.obj cls fs), .fr y] τ)).bind fun r τ3 => .ok (.bl (xor neg r)) τ3 else .no := by
  simp only [eEqO2, R.bind_ok, true_and]
@[simp] theorem toB_ok {z : Bool} : toB (.ok (.bl z) τ) = .ok z τ := id rfl
def eEqR2 (r : R DD) (cls : PySem.Str) (F : Fn) (y : DD) : R DD := r.bind fun x τ2 => match x with
  | .obj C fs => if C = cls ∧ thing y = true then (toB (F [.fr (.obj C fs), .fr y] τ2)).bind fun r τ3 => .ok (.bl r) τ3 else .no
  | _ => .no
def eEqR1 (r : R DD) (cls : PySem.Str) (F : Fn) (b : DE) (ρ : PEnv) : R DD := r.bind fun y τ1 => eEqR2 (b ρ τ1) cls F y
@[simp] theorem ev_EqR : dEqR cls F a b ρ τ = eEqR1 (a ρ τ) cls F b ρ := id rfl
@[simp] theorem eEqR1_ok : eEqR1 (.ok y τ) cls F b ρ = eEqR2 (b ρ τ) cls F y := id rfl
@[simp] theorem eEqR2_ok : eEqR2 (.ok (.obj cls fs) τ) cls F y = if thing y = true then (toB (F [.fr (.obj cls fs), .fr y] τ)).bind fun r τ3 => .ok (.bl r) τ3 else .no := by
  simp only [eEqR2, R.bind_ok, true_and]
noncomputable def eInO2 (r : R DD) (neg : Bool) (cls : PySem.Str) (F : Fn) (x : DD) : R DD := r.bind fun y τ2 => match x, y with
  | .obj C fs, .lst ds => if C = cls then (inD cls F (.obj C fs) ds τ2).bind fun r τ3 => .ok (.bl (xor neg r)) τ3 else .no
  | _, _ => .no

noncomputable def eInO1 (r : R DD) (neg : Bool) (cls : PySem.Str) (F : Fn) (b : DE) (ρ : PEnv) : R DD := r.bind fun x τ1 => eInO2 (b ρ τ1) neg cls F x
@[simp] theorem ev_InO {neg : Bool} : dInO neg cls F a b ρ τ = eInO1 (a ρ τ) neg cls F b ρ := id rfl
@[simp] theorem eInO1_ok {neg : Bool} : eInO1 (.ok x τ) neg cls F b ρ = eInO2 (b ρ τ) neg cls F x := id rfl
@[simp] theorem eInO2_ok {neg : Bool} {ds : List DD} : eInO2 (.ok (.lst ds) τ) neg cls F (.obj cls fs) = (inD cls F (.obj cls fs) ds τ).bind fun r τ3 => .ok (.bl (xor neg r)) τ3 := if_pos rfl
@[simp] theorem inD_nil : inD cls F x [] τ = .ok false τ := id rfl
theorem inD_cons {ds : List DD} : inD cls F x (d :: ds) τ = (eq1D cls F d x τ).bind fun b τ' => if b = true then .ok true τ' else inD cls F x ds τ' := id rfl
/-- objects whose == is an equality -/
theorem eq1D_obj {z : Bool} (h : F [.fr (.obj cls gs), .fr x] τ = .ok (.bl z) τ) (hc : canSame (.obj cls gs) x → z = true) : eq1D cls F (.obj cls gs) x τ = .ok z τ := by
  unfold eq1D
  simp only [if_true, h, toB_ok, R.bind_ok]
  rw [if_pos (fun c => ⟨hc c, rfl⟩)]
theorem eq1D_th {z : Bool} (ht : thing d = true) (h : F [.fr x, .fr d] τ = .ok (.bl z) τ) : eq1D cls F d x τ = .ok z τ := by
  have : eq1D cls F d x τ = if thing d = true then toB (F [.fr x, .fr d] τ) else .no := by
    cases d <;> first | rfl | (cases ht; done)
  rw [this, if_pos ht, h]
  rfl
@[simp] theorem gIsO_obj : gIsO cls (.obj cls fs) = some (.bl true) := if_pos rfl
@[simp] theorem gIsO_non : gIsO cls .non = some (.bl false) := id rfl
@[simp] theorem gIsO_int {i : Int} : gIsO cls (.int i) = some (.bl false) := id rfl
@[simp] theorem gIsO_str {i : PySem.Str} : gIsO cls (.str i) = some (.bl false) := id rfl
@[simp] theorem gIsO_lst {i : List DD} : gIsO cls (.lst i) = some (.bl false) := id rfl
@[simp] theorem gIsO_tup {i : List DD} : gIsO cls (.tup i) = some (.bl false) := id rfl
@[simp] theorem side_obj : sideY cls (.obj cls fs) = true := decide_eq_true rfl
@[simp] theorem side_non : sideY cls .non = true := id rfl
@[simp] theorem side_int {i : Int} : sideY cls (.int i) = true := id rfl
@[simp] theorem side_str {i : PySem.Str} : sideY cls (.str i) = true := id rfl
@[simp] theorem side_lst {i : List DD} : sideY cls (.lst i) = true := id rfl
@[simp] theorem side_tup {i : List DD} : sideY cls (.tup i) = true := id rfl
@[simp] theorem th_non : thing .non = true := id rfl
@[simp] theorem th_int {i : Int} : thing (.int i) = true := id rfl
@[simp] theorem th_str {i : PySem.Str} : thing (.str i) = true := id rfl
@[simp] theorem th_lst {i : List DD} : thing (.lst i) = true := id rfl
@[simp] theorem th_tup {i : List DD} : thing (.tup i) = true := id rfl
@[simp] theorem gSlT_eq {ds : List DD} {lo hi : Option Int} : gSlT (.tup ds) lo hi = some (.tup (cutL ds lo hi)) := id rfl
@[simp] theorem gIsB_eq {p q : Bool} : gIsB (.bl p) (.bl q) = some (.bl (decide (p = q))) := id rfl
@[simp] theorem gLenRg1_eq {i : Int} : gLenRg1 (.int i) = if (i.toNat : Int) < 9223372036854775808 then some (.int i.toNat) else none := id rfl
def eDropApp (r : R OC) (ρ : PEnv) : R Ct := stE r ρ fun c τ1 => match c with
  | .lst xs => if xs.length < sizeLine then .ok (.nx ρ) τ1 else .no
  | _ => .no
@[simp] theorem ev_DropApp {φ : PEnv → TS' → R OC} : dDropApp φ ρ τ = eDropApp (φ ρ τ) ρ := id rfl
@[simp] theorem eDropApp_ok {xs : List DD} : eDropApp (.ok (.lst xs) τ) ρ = if xs.length < 16777216 then .ok (.nx ρ) τ else .no := by
  show (if xs.length < sizeLine then _ else _) = _
  rfl
/-! the body of an init -/
@[simp] theorem ev_IEnd : dIEnd cls ρ τ fs = .ok (.obj cls fs) τ := id rfl
def eISet (r : R DD) (f : PySem.Str) (t : DI') (ρ : PEnv) (fs : List (PySem.Str × DD)) : R DD := r.bind fun d τ1 => if fs.length < 1000 then t ρ τ1 (putD f d fs) else .no
@[simp] theorem ev_ISet {t : DI'} : dISet f e t ρ τ fs = eISet (e ρ τ) f t ρ fs := id rfl
@[simp] theorem eISet_ok {t : DI'} : eISet (.ok d τ) f t ρ fs = if fs.length < 1000 then t ρ τ (putD f d fs) else .no := id rfl
@[simp] theorem putD_nil : putD f d [] = [(f, d)] := id rfl
theorem putD_ne {g : PySem.Str} (h : g ≠ f) : putD f d ((g, x) :: fs) = (g, x) :: putD f d fs := if_neg h
@[simp] theorem fixR_ok : fixR τ' (.ok d τ) = .ok d (fixT τ' τ) := id rfl
theorem ev_bodyI {pre : DS} {t : DI'} {z : Addr} {as : List PV} : bodyI n pre t z as τ = match pre (startP n (.fr (.raw z) :: as)) τ with
  | .ok (.nx ρ) τ' => bodyI2 t z τ ρ τ' ρ[0]?
  | .ok (.xc e _) τ' => .ex e (fixT τ τ')
  | _ => .no := id rfl
@[simp] theorem bodyI2_ok {t : DI'} {z : Addr} : bodyI2 t z τ ρ τ' (some (some (.fr (.raw z)))) = fixR τ (t ρ τ' []) := if_pos rfl
@[simp] theorem fixT_same : fixT τ τ = τ := by cases τ <;> rfl
end
/-! one and the same object -/
mutual
theorem Rp.func {K : PySem.W.Frag} {cm : CM} {G : Hp} : ∀ {v : V} {d e : DD}, Rp K cm G v d → Rp K cm G v e → plainD d = true → plainD e = true → d = e
  | _, _, _, .non, .non, _, _ => rfl
  | _, _, _, .bl _, .bl _, _, _ => rfl
  | _, _, _, .int _, .int _, _, _ => rfl
  | _, _, _, .str _, .str _, _, _ => rfl
  | _, _, _, .lst h r, e, p, q => by
    cases e with
    | lst h' r' => rw [h] at h'; cases h'; rw [RpA.func r r' p q]
    | tup h' _ => rw [h] at h'; cases h'
    | dic h' _ => rw [h] at h'; cases h'
    | obj h' _ => rw [h] at h'; cases h'
    | exc h' _ _ _ _ => cases q
    | raw _ => cases q
  | _, _, _, .tup h r, e, p, q => by
    cases e with
    | tup h' r' => rw [h] at h'; cases h'; rw [RpA.func r r' p q]
    | lst h' _ => rw [h] at h'; cases h'
    | dic h' _ => rw [h] at h'; cases h'
    | obj h' _ => rw [h] at h'; cases h'
    | exc h' _ _ _ _ => cases q
    | raw _ => cases q
  | _, _, _, .dic h r, e, p, q => by cases p
  | _, _, _, .obj h r, e, p, q => by cases p
  | _, _, _, .exc _ _ _ _ _, e, p, q => by cases p
  | _, _, _, .raw _, e, p, q => by cases p
theorem RpA.func {K : PySem.W.Frag} {cm : CM} {G : Hp} : ∀ {v : List V} {d e : List DD}, RpA K cm G v d → RpA K cm G v e → plainDs d = true → plainDs e = true → d = e
  | _, _, _, .nil, .nil, _, _ => rfl
  | _, _, _, .cons h r, .cons h' r', p, q => by
    unfold plainDs at p q
    rw [Bool.and_eq_true] at p q
    rw [Rp.func h h' p.1 q.1, RpA.func r r' p.2 q.2]
end
def plainFs : List (PySem.Str × DD) → Bool
  | [] => true
  | (_, d) :: r => plainD d && plainFs r
theorem RpF.func {K : PySem.W.Frag} {cm : CM} {G : Hp} : ∀ {v : List (PySem.Str × V)} {d e : List (PySem.Str × DD)}, RpF K cm G v d → RpF K cm G v e → plainFs d = true → plainFs e = true → d = e
  | _, _, _, .nil, .nil, _, _ => rfl
  | _, _, _, .cons h r, .cons h' r', p, q => by
    unfold plainFs at p q
    rw [Bool.and_eq_true] at p q
    rw [Rp.func h h' p.1 q.1, RpF.func r r' p.2 q.2]
theorem canSame_obj {C D : PySem.Str} {fs gs : List (PySem.Str × DD)} (h : canSame (.obj C fs) (.obj D gs)) (p : plainFs fs = true) (q : plainFs gs = true) : fs = gs := by
  obtain ⟨K, cm, G, v, h1, h2⟩ := h
  cases h1 with | obj e r =>
  cases h2 with | obj e' r' =>
  rw [e] at e'
  simp only [Option.some.injEq, HO.ins.injEq] at e'
  obtain ⟨_, _, rfl⟩ := e'
  exact RpF.func r r' p q
end Np

set_option Elab.async false
set_option linter.all false
set_option maxRecDepth 100000
namespace Np
open PySem PySem.Spec PyProof.Rows L2
section
variable {a b : DA} {ρ : PEnv} {τ : TS'} {as : List DD}
def eZpS1 (r : R (List DD)) (b : DA) (ρ : PEnv) : R (List DD) := r.bind fun x τ1 => (b ρ τ1).bind fun y τ2 => match x, y with
  | [.lst ds, .lst es], [.bl true] => if ds.length = es.length then .ok (zipD ds es) τ2 else .no
  | _, _ => .no
def eZpS2 (r : R (List DD)) (x : List DD) : R (List DD) := r.bind fun y τ2 => match x, y with
  | [.lst ds, .lst es], [.bl true] => if ds.length = es.length then .ok (zipD ds es) τ2 else .no
  | _, _ => .no
@[simp] theorem ev_IZipS : dIZipS a b ρ τ = eZpS1 (a ρ τ) b ρ := id rfl
@[simp] theorem eZpS1_ok : eZpS1 (.ok as τ) b ρ = eZpS2 (b ρ τ) as := id rfl
@[simp] theorem eZpS2_ok {ds es : List DD} : eZpS2 (.ok [.bl true] τ) [.lst ds, .lst es] = if ds.length = es.length then .ok (zipD ds es) τ else .no := id rfl
end
section
variable {ρ : PEnv} {τ : TS'} {a : DE} {F : Fn} {cls : PySem.Str} {fs : List (PySem.Str × DD)}
def eDropClr (r : R OC) (ρ : PEnv) : R Ct := stE r ρ fun c τ1 => match c with
  | .lst _ => .ok (.nx ρ) τ1
  | _ => .no
@[simp] theorem ev_DropClr {φ : PEnv → TS' → R OC} : dDropClr φ ρ τ = eDropClr (φ ρ τ) ρ := id rfl
@[simp] theorem eDropClr_ok {xs : List DD} : eDropClr (.ok (.lst xs) τ) ρ = .ok (.nx ρ) τ := id rfl
def hTru (d : DD) (τ2 : TS') : R Bool := match d with
  | .int n => if 0 ≤ n ∧ n < 2 ^ 63 then .ok (n != 0) τ2 else .no
  | _ => .no
def eTruO (r : R DD) (cls : PySem.Str) (F : Fn) : R Bool := r.bind fun x τ1 => match x with
  | .obj C fs => if C = cls then (F [.fr (.obj C fs)] τ1).nox.bind hTru else .no
  | _ => .no
@[simp] theorem ev_TruO : dTruO cls F a ρ τ = eTruO (a ρ τ) cls F := id rfl
@[simp] theorem eTruO_ok : eTruO (.ok (.obj cls fs) τ) cls F = (F [.fr (.obj cls fs)] τ).nox.bind hTru := if_pos rfl
@[simp] theorem hTru_ok {i : Int} : hTru (.int i) τ = if 0 ≤ i ∧ i < 9223372036854775808 then .ok (i != 0) τ else .no := id rfl
end
end Np

set_option Elab.async false
set_option linter.all false
set_option maxRecDepth 100000
namespace Np
open PySem PySem.Spec PyProof.Rows L2
section
variable {ρ : PEnv} {τ τ' : TS'} {e : DE} {ps qs : DPs} {i k n m : Nat} {FI : FnI} {g : List PV → List PV → List PV} {f : PySem.Str} {fs : List (PySem.Str × DD)} {d : DD}
def eISetV (r : R DD) (f : PySem.Str) (t : DI') (ρ : PEnv) (fs : List (PySem.Str × DD)) : R DD := r.bind fun d τ1 => if flatD d = true ∧ fs.length < 1000 then t ρ τ1 (putD f d fs) else .no
@[simp] theorem ev_ISetV {t : DI'} : dISetV f e t ρ τ fs = eISetV (e ρ τ) f t ρ fs := id rfl
@[simp] theorem eISetV_ok {t : DI'} : eISetV (.ok d τ) f t ρ fs = if flatD d = true ∧ fs.length < 1000 then t ρ τ (putD f d fs) else .no := id rfl
@[simp] theorem flatD_int {j : Int} : flatD (.int j) = true := id rfl
@[simp] theorem flatD_str {j : PySem.Str} : flatD (.str j) = true := id rfl
@[simp] theorem flatD_bl {j : Bool} : flatD (.bl j) = true := id rfl
@[simp] theorem flatD_non : flatD .non = true := id rfl
def eISetL (r : R OC) (f : PySem.Str) (t : DI') (ρ : PEnv) (fs : List (PySem.Str × DD)) : R DD := r.bind fun c τ1 => match c with
  | .lst ys => if ys.all flatD = true ∧ fs.length < 1000 then t ρ τ1 (putD f (.lst ys) fs) else .no
  | _ => .no
@[simp] theorem ev_ISetL {a : PEnv → TS' → R OC} {t : DI'} : dISetL f a t ρ τ fs = eISetL (a ρ τ) f t ρ fs := id rfl
@[simp] theorem eISetL_ok {ys : List DD} {t : DI'} : eISetL (.ok (.lst ys) τ) f t ρ fs = if ys.all flatD = true ∧ fs.length < 1000 then t ρ τ (putD f (.lst ys) fs) else .no := id rfl
theorem flats_sL (ps : List (List Nat)) : (sL ps).all flatD = true := by
  induction ps with
  | nil => rfl
  | cons p ps ih => rw [sL_cons, List.all_cons, ih]; rfl
noncomputable def eMkB (o : Option (Option PV)) (i k n m : Nat) (F : FnI) (g : List PV → List PV → List PV) (a b : DPs) (ρ : PEnv) (τ : TS') : R DD := match o with
  | some (some (.ow c)) => match dMkN' k n m F g a b (bor i c ρ) none with
    | .ok d _ => .ok d τ
    | _ => .no
  | _ => .no
def eMkB2 (r : R DD) (τ : TS') : R DD := match r with
  | .ok d _ => .ok d τ
  | _ => .no
@[simp] theorem ev_MkB : dMkB i k n m FI g ps qs ρ τ = eMkB ρ[i]? i k n m FI g ps qs ρ τ := id rfl
@[simp] theorem eMkB_ok {c : OC} : eMkB (some (some (.ow c))) i k n m FI g ps qs ρ τ = eMkB2 (dMkN' k n m FI g ps qs (bor i c ρ) none) τ := id rfl
@[simp] theorem eDrop_ex {x : Ex} : eDrop (.ex x τ) ρ = .ok (.xc x ρ) τ := id rfl
@[simp] theorem eMkB2_ok : eMkB2 (.ok d τ') τ = .ok d τ := id rfl
end
end Np

set_option Elab.async false
set_option linter.all false
set_option maxRecDepth 100000
namespace Np
open PySem PySem.Spec PyProof.Rows L2
section
variable {ρ : PEnv} {τ τ' : TS'} {e : DE} {i j : Nat}
def ePopA2 (r : Option (Nat × DD)) (xs : List DD) (i j : Nat) (ρ : PEnv) (τ : TS') : R Ct := match r with
  | some (k, y) => .ok (.nx ((ρ.set i (some (.ow (.lst (xs.eraseIdx k))))).set j (some (.fr y)))) τ
  | none => .no
def ePopA (o : Option (Option PV)) (r : R DD) (i j : Nat) (ρ : PEnv) : R Ct := match o with
  | some (some (.ow (.lst xs))) => stE r ρ fun d τ1 => match d with
    | .int n => ePopA2 (popD xs n) xs i j ρ τ1
    | _ => .no
  | _ => .no
@[simp] theorem ev_PopA : dPopA i j e ρ τ = ePopA ρ[i]? (e ρ τ) i j ρ := id rfl
@[simp] theorem ePopA_ok {xs : List DD} {n : Int} : ePopA (some (some (.ow (.lst xs)))) (.ok (.int n) τ) i j ρ = ePopA2 (popD xs n) xs i j ρ τ := id rfl
@[simp] theorem ePopA2_ok {k : Nat} {y : DD} {xs : List DD} : ePopA2 (some (k, y)) xs i j ρ τ = .ok (.nx ((ρ.set i (some (.ow (.lst (xs.eraseIdx k))))).set j (some (.fr y)))) τ := id rfl
theorem popD_0 {x : DD} {xs : List DD} : popD (x :: xs) 0 = some (0, x) := by
  unfold popD
  rw [if_pos (by decide)]
  have : seqIndex? 0 (x :: xs).length = some 0 := by
    unfold seqIndex?
    simp
  rw [this]
  rfl
@[simp] theorem gWords_eq {z : PySem.Str} : gWords z [] = if z.length + 2 ≤ 16777216 then some (.lst ((Txt.words z).map DD.str)) else none := by
  show (if z.length + 2 ≤ sizeLine then _ else _) = _
  rfl
end
end Np

set_option Elab.async false
set_option linter.all false
set_option maxRecDepth 100000
set_option maxHeartbeats 4000000
namespace Np
open PySem PySem.Spec PyProof.Rows L2
/-! ### min(xs, key=f), f a def -/
section
variable {X : Cx} {pins : List (Addr × Obj)} {σ : L2.St} {k : Nat} {f l S it : Addr} {fd : FuncData} {ps : List Str} {sp : Sp} {xs : List V} {J : Hp → Prop} {M : Nat → V → Hp → Prop} {bt : Nat → Nat → Bool} {R : Result → Shared → Prop}
/-- the call of f, some records pinned -/
theorem key_call {H : Hp} {s : Shared} {x : V} {u : Value} {Q : VK} {E : Value → Shared → Prop} {Q' : Value → Shared → Prop} (F : FnG X.prog X.w X.K X.mg X.base CX0 k f fd ps sp) (hgd : X.A.guards = some []) (hr : Room (k + 1) X.A) (hb : Binds X.K fd ps [])
    (I : Inv X pins σ H s) (rx : RelV x u) (h : sp [x] H Q E0) (hq : ∀ v s', EP X pins σ Q v s' → Q' v s') : wpAny (model X.prog X.w) X.A.in1 (call (.ref f) [u]) Q' E s := by
  have e0 : Env0 X.prog X.w X.K X.mg X.base X.A.in1 X.stack s H := by
    have e := I.env0
    exact ⟨e.frames, e.mod, e.bs, e.bsz, e.funs, e.frf, e.hok, e.bare⟩
  have hl := F.len _ _ _ _ h
  have r2 : Vals [x] [u] := .cons rx .nil
  refine wpAny_call (codeAny_mono (F.run X.A.in1 X.stack s H ⟨[u], []⟩ [u] [x] _ E0 hgd hr.in1 e0 (by
    have := hb s [u] I.kIn (by simpa using hl)
    simpa using this) r2 h) fun r s' hq' => ?_)
  cases r with
  | error e => exact hq'.elim
  | ok fl =>
    cases fl with
    | ret v => exact hq v s' (I.after hq')
    | next => exact False.elim hq'
    | brk => exact False.elim hq'
    | cont => exact False.elim hq'
/-- the call of f, two records held -/
theorem key_call2 {H : Hp} {s : Shared} {x : V} {u : Value} {Q : VK} {E : Value → Shared → Prop} {Q' : Value → Shared → Prop} {oS oI : Obj} (F : FnG X.prog X.w X.K X.mg X.base CX0 k f fd ps sp) (hgd : X.A.guards = some []) (hr : Room (k + 1) X.A) (hb : Binds X.K fd ps [])
    (I : Inv X pins σ H s) (rS : FbM.Rec X pins S) (rI : FbM.Rec X pins it) (uS : H S = none) (uI : H it = none) (hS : s.heap.get? S = some oS) (hI : s.heap.get? it = some oI) (cS : ∀ v, oS.data ≠ .cell v) (cI : ∀ v, oI.data ≠ .cell v)
    (nS : S ∉ X.fs) (nI : it ∉ X.fs) (rx : RelV x u) (h : sp [x] H Q E0)
    (hq : ∀ v u' H' s', Inv X pins σ H' s' → RelV v u' → Q v H' → H' S = none → H' it = none → s'.heap.get? S = some oS → s'.heap.get? it = some oI → Q' u' s') : wpAny (model X.prog X.w) X.A.in1 (call (.ref f) [u]) Q' E s := by
  have I2 : Inv X ((S, oS) :: (it, oI) :: pins) σ H s := I.pins_of fun p hp => by
    rcases List.mem_cons.mp hp with rfl | hp
    · exact ⟨hS, uS, rS.nl, nS, cS⟩
    · rcases List.mem_cons.mp hp with rfl | hp
      · exact ⟨hI, uI, rI.nl, nI, cI⟩
      · exact I.pin p (List.mem_append_right _ hp)
  refine key_call (E := E) F hgd hr hb I2 rx h fun u' s' h' => ?_
  obtain ⟨v, H', I3, rv, q⟩ := h'
  have p1 := I3.pin (S, oS) (List.mem_append_right _ List.mem_cons_self)
  have p2 := I3.pin (it, oI) (List.mem_append_right _ (List.mem_cons_of_mem _ List.mem_cons_self))
  exact hq v u' H' s' (I3.pins_of fun p hp => I3.pin p (List.mem_append_right _ (List.mem_cons_of_mem _ (List.mem_cons_of_mem _ hp)))) rv q p1.2.1 p2.2.1 p1.1 p2.1
theorem mk_loop (hh : X.A.in1.handled = none) (F : FnG X.prog X.w X.K X.mg X.base CX0 k f fd ps sp) (hgd : X.A.guards = some []) (hr : Room (k + 1) X.A) (hb : Binds X.K fd ps [])
    (hl : ∀ H', J H' → SqL X.K H' l xs)
    (hf : ∀ i x H', xs[i]? = some x → J H' → sp [x] H' (fun v H'' => J H'' ∧ M i v H'' ∧ ∀ j u, M j u H' → M j u H'') E0)
    (hc : ∀ i j u v ui vi H' s', J H' → M i u H' → M j v H' → Inv X pins σ H' s' → RelV u ui → RelV v vi → Ob.RcOp .Lt X.A.in1 s' ui vi (bt i j))
    (rS : FbM.Rec X pins S) (rI : FbM.Rec X pins it) (SI : S ≠ it) (lI : l ≠ it) (lS : l ≠ S) (nS : S ∉ X.fs) (nI : it ∉ X.fs) (kw : List (Str × Value))
    (hR : ∀ v x H' s', xs[argBest bt (xs.length - 1)]? = some x → RelV x v → J H' → Inv X pins σ H' s' → R (.ok (.ret v)) s') :
    ∀ (m j : Nat) (s : Shared) (H : Hp) (vb kb : Value) (kbv xb : V) (c : Nat), xs.length - (j + 1) = m → j + 1 ≤ xs.length → Inv X pins σ H s → J H → H S = none → H it = none → s.heap.IsListIter it l (j + 1) →
      xs[argBest bt j]? = some xb → RelV xb vb → M (argBest bt j) kbv H → RelV kbv kb → s.heap.get? S = some { cls := .type "list", dict := none, data := .seq #[vb, kb] c, slots := #[] } →
      codeAny (model X.prog X.w) X.A (.builtin "min.loop" ⟨[.ref it, .ref f, .ref S], kw⟩) R s := by
  have hname : (toString "min" ++ toString ".loop" : String) = "min.loop" := by decide
  intro m
  induction m with
  | zero =>
    intro j s H vb kb kbv xb c hm hj I hJ uS uI hit hx rx hM rk hS
    have hin : j + 1 = xs.length := by omega
    obtain ⟨its, rv, pl, _⟩ := I.list (hl H hJ)
    have none' : its.toArray[j + 1]? = none := by
      have := rv.length
      simp
      omega
    refine codeAny_builtin PySem.F.entry_min_loop ?_
    rw [Around.under_plainId PySem.F.plain_min_loop _]
    show wpAny _ X.A.in1 (seqItems? (.ref S) >>= _) _ _ s
    refine wpAny_bind (wpAny_seqItems hS rfl ?_)
    show wpAny _ X.A.in1 (tryCatch (pyNext (.ref it)) _ >>= _) _ _ s
    refine wpAny_bind (wpAny_tryCatch (wpAny_pyNext_list_end hh hit pl.isList none' fun h' he => ?_))
    have hS' := he S _ SI hS
    have I2 : Inv X pins σ H { s with heap := h' } := rI.turn (t' := s.toks) I uI fun c o hc e => he c o hc e
    show wpAny _ X.A.in1 (updateSeq S (fun _ => #[]) >>= _) _ _ _
    refine wpAny_bind ?_
    refine wpAny_updateSeq hS' rfl (wpAny_bind (wpAny_letGo (wpAny_pure ?_)))
    refine hR vb xb H _ (by rw [← hin]; exact hx) rx hJ ?_
    exact rS.turn (t' := s.toks) I2 uS fun c o hc e => (Heap.get?_update_other _ _ (fun z => hc z.symm)).trans e
  | succ m ih =>
    intro j s H vb kb kbv xb c hm hj I hJ uS uI hit hx rx hM rk hS
    have hlt : j + 1 < xs.length := by omega
    obtain ⟨its, rv, pl, _⟩ := I.list (hl H hJ)
    obtain ⟨u, hu, ru⟩ := rv.get (List.getElem?_eq_getElem hlt)
    refine codeAny_builtin PySem.F.entry_min_loop ?_
    rw [Around.under_plainId PySem.F.plain_min_loop _]
    show wpAny _ X.A.in1 (seqItems? (.ref S) >>= _) _ _ s
    refine wpAny_bind (wpAny_seqItems hS rfl ?_)
    show wpAny _ X.A.in1 (tryCatch (pyNext (.ref it)) _ >>= _) _ _ s
    refine wpAny_bind (wpAny_tryCatch (wpAny_pyNext_list_item hit pl.isList (by simpa using hu) fun h' hit' hs => ?_))
    have hS' : h'.get? S = some { cls := .type "list", dict := none, data := .seq #[vb, kb] c, slots := #[] } := hs.extBut _ _ SI hS
    have I2 : Inv X pins σ H { s with heap := h' } := rI.turn (t' := s.toks) I uI fun c o hc e => hs.extBut _ _ hc e
    show wpAny _ X.A.in1 (tryCatch (holding [u] (call (.ref f) [u])) _ >>= _) _ _ _
    obtain ⟨oI, hoI, hcI, hdI⟩ := id hit'
    refine wpAny_bind (wpAny_tryCatch (wpAny_holding (key_call2 F hgd hr hb I2 rS rI uS uI hS' hoI (by intro v z; cases z) (by rw [hdI]; intro v z; cases z) nS nI ru (hf (j + 1) _ H (List.getElem?_eq_getElem hlt) hJ) fun kv kx H3 s3 I3 rkx q3 uS3 uI3 hS3 hI3 => ?_)))
    obtain ⟨hJ3, hM3, hk3⟩ := q3
    have hit3 : s3.heap.IsListIter it l (j + 2) := ⟨oI, hI3, hcI, hdI⟩
    show wpAny _ X.A.in1 (tryCatch (holding [u, kx] (richCompare .Lt kx kb >>= _)) _ >>= _) _ _ _
    refine wpAny_bind (wpAny_tryCatch (wpAny_holding (wpAny_bind (hc (j + 1) (argBest bt j) kv kbv kx kb H3 s3 hJ3 hM3 (hk3 _ _ hM) I3 rkx rk X.prog X.w _ _ ?_))))
    refine wpAny_bind (wpAny_holding (wpAny_truthy_bool ?_))
    refine wpAny_bind (wpAny_letGo (wpAny_pure ?_))
    cases hbt : bt (j + 1) (argBest bt j) with
    | true =>
      simp only [if_true]
      refine wpAny_bind ?_
      refine wpAny_updateSeq hS3 rfl (wpAny_bind (wpAny_letGo ?_))
      rw [hname]
      have I4 : Inv X pins σ H3 { s3 with heap := s3.heap.update S (Obj.mapSeq fun _ => #[u, kx]) } := rS.turn (t' := s3.toks) I3 uS3 fun c o hc e => (Heap.get?_update_other _ _ (fun z => hc z.symm)).trans e
      have hit4 : (s3.heap.update S (Obj.mapSeq fun _ => #[u, kx])).IsListIter it l (j + 2) := hit3.at fun o e => (Heap.get?_update_other _ _ SI).trans e
      refine wpAny_pure ⟨plainId_quiet PySem.F.plain_min_loop _, ih (j + 1) _ H3 u kx kv xs[j + 1] _ (by omega) hlt I4 hJ3 uS3 uI3 hit4 ?_ ru ?_ rkx (Heap.get?_update_self _ hS3 rfl)⟩
      · simp only [argBest, hbt, if_true]; exact List.getElem?_eq_getElem hlt
      · simp only [argBest, hbt, if_true]; exact hM3
    | false =>
      simp only [Bool.false_eq_true, if_false]
      refine wpAny_bind (wpAny_letGo ?_)
      rw [hname]
      refine wpAny_pure ⟨plainId_quiet PySem.F.plain_min_loop _, ih (j + 1) _ H3 vb kb kbv xb c (by omega) hlt I3 hJ3 uS3 uI3 hit3 ?_ rx ?_ rk hS3⟩
      · simp only [argBest, hbt, Bool.false_eq_true, if_false]; exact hx
      · simp only [argBest, hbt, Bool.false_eq_true, if_false]; exact hk3 _ _ hM
end
end Np

set_option Elab.async false
set_option linter.all false
set_option maxRecDepth 100000
set_option maxHeartbeats 4000000
namespace Np
open PySem PySem.Spec PyProof.Rows L2
mutual
theorem Dp.more {K : PySem.W.Frag} {H H' : Hp} (s : Same H H') : ∀ {v : V} {p : PyData}, Dp K H v p → Dp K H' v p
  | _, _, .non => .non
  | _, _, .bl b => .bl b
  | _, _, .int i => .int i
  | _, _, .str x => .str x
  | _, _, .lst h r => .lst (s.seq h) (DpAll.more s r)
  | _, _, .tup h r => .tup (Same.tupq s h) (DpAll.more s r)
theorem DpAll.more {K : PySem.W.Frag} {H H' : Hp} (s : Same H H') : ∀ {v : List V} {p : List PyData}, DpAll K H v p → DpAll K H' v p
  | _, _, .nil => .nil
  | _, _, .cons h r => .cons (Dp.more s h) (DpAll.more s r)
end
/-- min(xs, key=f): p i the key of the i-th -/
def rMinK (K : PySem.W.Frag) (f : Addr) (sp : Sp) : List V → List V → Hp → VK → Prop := fun vs zs H Q => ∃ (l : Addr) (xs : List V) (J : Hp → Prop) (p : Nat → PyData), vs = [.ref l] ∧ zs = [.ref f] ∧ 0 < xs.length ∧ J H ∧ (∀ H', J H' → SqL K H' l xs) ∧
  (∀ i j, i < xs.length → j < xs.length → PySem.W.alike (p i) (p j) = true ∧ (p i).depth ≤ 64 ∧ p i ≠ .none) ∧
  (∀ i x H', xs[i]? = some x → J H' → sp [x] H' (fun v H'' => J H'' ∧ (i < xs.length ∧ Dp K H'' v (p i)) ∧ ∀ j u, (j < xs.length ∧ Dp K H' u (p j)) → j < xs.length ∧ Dp K H'' u (p j)) E0) ∧
  ∀ x H', xs[argBest (fun i j => PySem.W.dataLt (p i) (p j)) (xs.length - 1)]? = some x → J H' → Q x H'
section
variable {X : Cx} {k : Nat} {f : Addr} {fd : FuncData} {ps : List Str} {sp : Sp}
theorem cr_minKey (hcm : X.calm = true) (F : FnG X.prog X.w X.K X.mg X.base CX0 k f fd ps sp) (hgd : X.A.guards = some []) (hr : Room (k + 1) X.A) (hb : Binds X.K fd ps []) : CallRK X (.builtin "min") [Str.ofString "key"] (rMinK X.K f sp) := by
  intro pins s σ H vs zs us ws Q I r rz h
  obtain ⟨l, xs, J, p, rfl, rfl, hn, hJ, hl, hp, hf, hq⟩ := h
  obtain rfl := Vals.ref1 r
  cases rz with | cons rz rr =>
  cases rr
  cases rz
  obtain ⟨its, rv, pl, _⟩ := I.list (hl H hJ)
  have ll : l < s.heap.objs.size := by obtain ⟨o, n, e, _⟩ := pl; exact Heap.lt_size e
  have hh : X.A.in1.handled = none := I.ok.hd hcm
  have hu : ∀ {d e : PyData}, d.depth ≤ 64 → X.A.in1.units + min d.depth e.depth < cLine := fun {d e} hd => by
    have := hr.un
    show X.A.units + 1 + _ < _
    omega
  have hname : (toString "min" ++ toString ".loop" : String) = "min.loop" := by decide
  refine kmk_tree PySem.F.kind_min PySem.F.plain_min PySem.F.entry_min (kmk_min_key _ _) ?_
  show wpAny _ X.A.in1 (Builtin.Builtins.bindParams "min" ["key", "default"] 0 ⟨[], [(Str.ofString "key", .ref f)]⟩ >>= _) _ _ s
  refine wpAny_bind (wpAny_of_eq (show Builtin.Builtins.bindParams "min" ["key", "default"] 0 ⟨[], [(Str.ofString "key", .ref f)]⟩ = pure [some (.ref f), none] from rfl) ?_)
  refine wpAny_bind (wpAny_pure ?_)
  refine wpAny_bind (wpAny_pyIter_list pl.isList ?_)
  refine wpAny_bind (wpAny_newObj_type ?_)
  rw [hname]
  have sz1 : (s.heap.push { cls := .type "list_iterator", data := .fields #[.ref l, .int 0 0] }).objs.size = s.heap.objs.size + 1 := Heap.size_push ..
  have I1 : Inv X pins σ H { s with heap := s.heap.push { cls := .type "list_iterator", data := .fields #[.ref l, .int 0 0] } } := I.kept (t' := s.toks) fun b o e => Heap.get?_push_of_some _ e
  have I2 : Inv X pins σ H { s with heap := (s.heap.push { cls := .type "list_iterator", data := .fields #[.ref l, .int 0 0] }).push { cls := .type "list", data := .seq #[] 0 } } := I1.kept (t' := s.toks) fun b o e => Heap.get?_push_of_some _ e
  have rI : FbM.Rec X pins s.heap.objs.size := FbM.rec_new I (Nat.le_refl _)
  have rS : FbM.Rec X pins (s.heap.push { cls := .type "list_iterator", data := .fields #[.ref l, .int 0 0] }).objs.size := FbM.rec_new I (by rw [sz1]; exact Nat.le_succ _)
  have uI : H s.heap.objs.size = none := I.hok.fresh (Nat.le_refl _)
  have uS : H (s.heap.push { cls := .type "list_iterator", data := .fields #[.ref l, .int 0 0] }).objs.size = none := I.hok.fresh (by rw [sz1]; exact Nat.le_succ _)
  have nI : s.heap.objs.size ∉ X.fs := I.nofs (Nat.le_refl _)
  have nS : (s.heap.push { cls := .type "list_iterator", data := .fields #[.ref l, .int 0 0] }).objs.size ∉ X.fs := I.nofs (by rw [sz1]; exact Nat.le_succ _)
  have SI : (s.heap.push { cls := .type "list_iterator", data := .fields #[.ref l, .int 0 0] }).objs.size ≠ s.heap.objs.size := by rw [sz1]; exact Nat.succ_ne_self _
  have lI : l ≠ s.heap.objs.size := Nat.ne_of_lt ll
  have lS : l ≠ (s.heap.push { cls := .type "list_iterator", data := .fields #[.ref l, .int 0 0] }).objs.size := by rw [sz1]; exact Nat.ne_of_lt (Nat.lt_succ_of_lt ll)
  have hit : ((s.heap.push { cls := .type "list_iterator", data := .fields #[.ref l, .int 0 0] }).push { cls := .type "list", data := .seq #[] 0 }).IsListIter s.heap.objs.size l 0 := ⟨_, Heap.get?_push_of_some _ (Heap.get?_push_size _ rfl), rfl, rfl⟩
  have hS : ((s.heap.push { cls := .type "list_iterator", data := .fields #[.ref l, .int 0 0] }).push { cls := .type "list", data := .seq #[] 0 }).get? (s.heap.push { cls := .type "list_iterator", data := .fields #[.ref l, .int 0 0] }).objs.size = some { cls := .type "list", dict := none, data := .seq #[] 0, slots := #[] } := Heap.get?_push_size _ rfl
  generalize (s.heap.push { cls := .type "list_iterator", data := .fields #[.ref l, .int 0 0] }).objs.size = S at *
  generalize (s.heap.push { cls := .type "list_iterator", data := .fields #[.ref l, .int 0 0] }).push { cls := .type "list", data := .seq #[] 0 } = h2 at *
  generalize s.heap.objs.size = it at *
  refine wpAny_pure ⟨plainId_quiet PySem.F.plain_min_loop _, ?_⟩
  -- the first
  obtain ⟨its2, rv2, pl2, _⟩ := I2.list (hl H hJ)
  obtain ⟨u, hu0, ru⟩ := rv2.get (List.getElem?_eq_getElem hn)
  refine codeAny_builtin PySem.F.entry_min_loop ?_
  rw [Around.under_plainId PySem.F.plain_min_loop _]
  show wpAny _ X.A.in1 (seqItems? (.ref S) >>= _) _ _ _
  refine wpAny_bind (wpAny_seqItems hS rfl ?_)
  show wpAny _ X.A.in1 (tryCatch (pyNext (.ref it)) _ >>= _) _ _ _
  refine wpAny_bind (wpAny_tryCatch (wpAny_pyNext_list_item hit pl2.isList (by simpa using hu0) fun h' hit' hs => ?_))
  have hS' : h'.get? S = some { cls := .type "list", dict := none, data := .seq #[] 0, slots := #[] } := hs.extBut _ _ SI hS
  have I3 : Inv X pins σ H { ({ s with heap := h2 } : Shared) with heap := h' } := FbM.Rec.turn (s := { s with heap := h2 }) (t' := s.toks) rI I2 uI fun c o hc e => hs.extBut _ _ hc e
  show wpAny _ X.A.in1 (tryCatch (holding [u] (call (.ref f) [u])) _ >>= _) _ _ _
  obtain ⟨oI, hoI, hcI, hdI⟩ := id hit'
  refine wpAny_bind (wpAny_tryCatch (wpAny_holding (key_call2 F hgd hr hb I3 rS rI uS uI hS' hoI (by intro v z; cases z) (by rw [hdI]; intro v z; cases z) nS nI ru (hf 0 _ H (List.getElem?_eq_getElem hn) hJ) fun kv kx H3 s3 I4 rkx q3 uS3 uI3 hS3 hI3 => ?_)))
  obtain ⟨hJ3, hM3, _⟩ := q3
  have hit3 : s3.heap.IsListIter it l 1 := ⟨oI, hI3, hcI, hdI⟩
  show wpAny _ X.A.in1 (updateSeq S (fun _ => #[u, kx]) >>= _) _ _ _
  refine wpAny_bind ?_
  refine wpAny_updateSeq hS3 rfl ?_
  rw [hname]
  have I5 : Inv X pins σ H3 { s3 with heap := s3.heap.update S (Obj.mapSeq fun _ => #[u, kx]) } := rS.turn (t' := s3.toks) I4 uS3 fun c o hc e => (Heap.get?_update_other _ _ (fun z => hc z.symm)).trans e
  have hit4 : (s3.heap.update S (Obj.mapSeq fun _ => #[u, kx])).IsListIter it l 1 := hit3.at fun o e => (Heap.get?_update_other _ _ SI).trans e
  refine wpAny_pure ⟨plainId_quiet PySem.F.plain_min_loop _, mk_loop (J := J) (M := fun i v H' => i < xs.length ∧ Dp X.K H' v (p i)) (bt := fun i j => PySem.W.dataLt (p i) (p j)) hh F hgd hr hb hl hf (fun i j a b ai bi H' s' _ h1 h2 I' r1 r2 => ?_) rS rI SI lI lS nS nI _ (fun v x H' s' hx rx hJ' I' => ⟨x, H', I', rx, hq x H' hx hJ'⟩) _ 0 _ H3 u kx kv xs[0] _ rfl hn I5 hJ3 uS3 uI3 hit4 (List.getElem?_eq_getElem hn) ru hM3 rkx (Heap.get?_update_self _ hS3 rfl)⟩
  obtain ⟨as, ra⟩ := Dp.reads I' _ _ _ h1.2 r1
  obtain ⟨bs, rb⟩ := Dp.reads I' _ _ _ h2.2 r2
  obtain ⟨q1, q2, q3⟩ := hp i j h1.1 h2.1
  exact PySem.W.rcLt_alike (p i) (p j) X.A.in1 s' ai bi as bs ra rb q1 q3 (hu q2)
end
/-! ### the denotation -/
def keysD (F : Fn) : List DD → Option (List PyData)
  | [] => some []
  | d :: ds => match F [.fr d] none with
    | .ok kd _ => match toPy kd, keysD F ds with
      | some p, some ps => some (p :: ps)
      | _, _ => none
    | _ => none
def keysOk (ps : List PyData) : Prop := ∀ p ∈ ps, (∀ q ∈ ps, PySem.W.alike p q = true) ∧ p.depth ≤ 64 ∧ p ≠ .none
def bestD (ps : List PyData) : Nat := argBest (fun i j => PySem.W.dataLt (ps.getD i .none) (ps.getD j .none)) (ps.length - 1)
open Classical in
noncomputable def gMinK (F : Fn) (ds : List DD) : Option DD := match keysD F ds with
  | some ps => if 0 < ds.length ∧ keysOk ps then ds[bestD ps]? else none
  | none => none
noncomputable def dMinK (F : Fn) (a : DA) : DE := fun ρ τ => (a ρ τ).bind fun xs τ1 => match xs with
  | [.lst ds] => R.of τ1 (gMinK F ds)
  | _ => .no
theorem keysD_len {F : Fn} : ∀ {ds : List DD} {ps : List PyData}, keysD F ds = some ps → ps.length = ds.length
  | [], ps, h => by cases h; rfl
  | d :: ds, ps, h => by
    unfold keysD at h
    split at h
    · split at h
      · rename_i hp hk
        cases h
        rw [List.length_cons, List.length_cons, keysD_len hk]
      · cases h
    · cases h
theorem keysD_get {F : Fn} : ∀ {ds : List DD} {ps : List PyData} {i : Nat} {d : DD}, keysD F ds = some ps → ds[i]? = some d → ∃ kd τ p, F [.fr d] none = .ok kd τ ∧ toPy kd = some p ∧ ps[i]? = some p
  | [], ps, i, d, h, hd => by simp at hd
  | d0 :: ds, ps, i, d, h, hd => by
    unfold keysD at h
    split at h
    · rename_i kd τ e
      split at h
      · rename_i p qs hp hk
        cases h
        cases i with
        | zero =>
          simp only [List.getElem?_cons_zero, Option.some.injEq] at hd
          subst hd
          exact ⟨kd, τ, p, e, hp, rfl⟩
        | succ i =>
          obtain ⟨kd2, τ2, p2, a, b, c⟩ := keysD_get hk (by simpa using hd)
          exact ⟨kd2, τ2, p2, a, b, by simpa using c⟩
      · cases h
    · cases h
section
variable {W : Wp} {Wx : L2.St → XK} {ta : TA} {δa : DA} {F : Fn} {f : Addr}
theorem dn_minK (ha : DnA W Wx ta δa) : Dn W Wx (tCKw (rMinK W.K f (spP W 1 F)) ta (tCons (tC (.ref f)) tNil)) (dMinK F δa) := fun tp G H σ ρ τ Q E P =>
  ha _ _ _ _ _ _ _ E (P.bind fun as τ1 vs G1 H1 e1 E1 r1 P1 => by
    split at P1
    · rename_i ds
      cases r1 with | cons r rr =>
      cases rr
      cases r with | lst hl ra =>
      rename_i l us
      obtain ⟨d, hd, P2⟩ := P1.of
      unfold gMinK at hd
      split at hd
      · rename_i ps hk
        split at hd
        · rename_i hok
          obtain ⟨hn, hok⟩ := hok
          have pl := keysD_len hk
          have ul := ra.length
          refine ⟨l, us, fun H' => ∃ G', Ext none G1 H1 G' H' ∧ Same G' H', fun i => ps.getD i .none, rfl, rfl, by omega, ⟨G1, Ext.refl, E1.g⟩, fun H' ⟨G', e', s'⟩ => SqL.of (s' _ _ (e'.g _ _ hl)), fun i j hi hj => ?_, fun i x H' hx ⟨G', e', s'⟩ => ?_, fun x H' hx ⟨G', e', s'⟩ => ?_⟩
          · have h1 : ps.getD i .none ∈ ps := by rw [List.getD_eq_getElem?_getD, List.getElem?_eq_getElem (by omega)]; exact List.getElem_mem _
            have h2 : ps.getD j .none ∈ ps := by rw [List.getD_eq_getElem?_getD, List.getElem?_eq_getElem (by omega)]; exact List.getElem_mem _
            exact ⟨(hok _ h1).1 _ h2, (hok _ h1).2⟩
          · obtain ⟨di, hdi, rd⟩ := RpA.get' ra hx
            obtain ⟨kd, τk, p, hF, hp, hpi⟩ := keysD_get hk hdi
            have hi : i < us.length := (List.getElem?_eq_some_iff.mp hx).1
            refine ⟨rfl, none, G', [.fr di], none, s', .cons (show ArgR W none G' x (.fr di) from Rp.mono e'.g rd) .nil, trivial, ?_⟩
            rw [hF]
            intro v G2 H2 e2 s2 _ r2
            refine ⟨⟨G2, e'.trans e2, s2⟩, ⟨hi, ?_⟩, fun j u hj => ⟨hj.1, Dp.more (fun b o hb => e2.h b o (by simp) hb) hj.2⟩⟩
            have : ps.getD i .none = p := by rw [List.getD_eq_getElem?_getD, hpi]; rfl
            show Dp W.K H2 v (ps.getD i .none)
            rw [this]
            exact (Rp.mono s2 r2).dp hp
          · have e : argBest (fun i j => PySem.W.dataLt (ps.getD i .none) (ps.getD j .none)) (us.length - 1) = bestD ps := by unfold bestD; rw [pl, ul]
            rw [e] at hx
            obtain ⟨d2, hd2, r2⟩ := RpA.get' ra hx
            rw [hd] at hd2
            cases hd2
            exact P2 x G' H' e'.weak (E1.grow e' s') (Rp.mono e'.g r2)
        · cases hd
      · cases hd
    · exact P1.elim)
end
end Np

set_option Elab.async false
set_option linter.all false
set_option maxRecDepth 100000
set_option maxHeartbeats 4000000
/-! zip of two lists or of two tuples -/
namespace Np
open PySem PySem.Spec PyProof.Rows L2
theorem pi_zipAK (K : PySem.W.Frag) {X : Cx} {e e2 : Expr} {ta : TA} {p pos tpos : Pos} {elts : List Expr} {kk : Nat} (hg : Gl X "zip") (hm : X.mg "zip" = none) (ha : PA X [e, e2] ta)
    (hs : starEach [e, e2] X.env = (false, eval e X.env) :: starEach [e2] X.env := by rfl) (hpl : (backTo pos (starEach [e2] X.env)).any (·.1) = false := by rfl) (h : X.K = K := by rfl) :
    PI X (.Tuple elts kk tpos) (.Call (.Name "zip" p) [e, e2] [] pos) (RZ.iZipA K ta) := by subst h; exact RZ.pi_zipA hg hm ha hs hpl
section
variable {W : Wp} {Wx : L2.St → XK} {tr : TA} {δr : DA}
theorem walk_zipT {K : PySem.W.Frag} {a b : Addr} {xs ys : List V} {n : Nat} (hn : n = min xs.length ys.length) : Walk (RZ.ItzT K a b) n (fun H => SqT K H a xs ∧ SqT K H b ys) (YPair (fun i => xs[i]?) (fun i => ys[i]?)) := by
  subst hn
  refine ⟨fun i _ hi q => ?_, fun _ q => ⟨xs, ys, q.1, q.2, by omega⟩, fun i H v H' _ q y => ?_⟩
  · have h1 : i < xs.length := by omega
    have h2 : i < ys.length := by omega
    exact ⟨xs, ys, xs[i], ys[i], q.1, q.2, by simp [h1], by simp [h2]⟩
  · obtain ⟨T, x, z, h1, h2, h3, h4, h5⟩ := y
    exact ⟨T, x, z, h1, h2, h3, h4 xs q.1, h5 ys q.2⟩
def dIZipA (a : DA) : DI := fun ρ τ => (a ρ τ).bind fun x τ1 => match x with
  | [.lst ds, .lst es] => .ok (zipD ds es) τ1
  | [.tup ds, .tup es] => .ok (zipD ds es) τ1
  | _ => .no
theorem di_zipA (hr : DnA W Wx tr δr) : DnI W Wx (RZ.iZipA W.K tr) (dIZipA δr) := fun tp G H σ ρ τ Q E P =>
  hr _ _ _ _ _ _ _ E (P.bind fun a τ1 x G1 H1 e1 E1 r1 P1 => by
    split at P1
    · rename_i ds es
      cases r1 with | cons r rs =>
      cases rs with | cons r' rs =>
      cases rs
      cases r with | lst h r =>
      cases r' with | lst h' r' =>
      refine ⟨_, _, _, _, rfl, .inl ⟨SqL.of (E1.g _ _ h), SqL.of (E1.g _ _ h'), P1 _ G1 H1 Ext.refl E1 (ItR.pair (walk_zip (K := W.K) rfl) (fun H s => ⟨SqL.of (s _ _ h), SqL.of (s _ _ h')⟩) (by unfold zipD; rw [List.length_zipWith, r.length, r'.length]) fun i d hd u v e1 e2 => ?_)⟩⟩
      obtain ⟨p, hp, rp⟩ := r.get' e1
      obtain ⟨q, hq, rq⟩ := r'.get' e2
      unfold zipD at hd
      rw [List.getElem?_zipWith, hp, hq] at hd
      cases hd
      exact ⟨_, _, rfl, rp, rq⟩
    · rename_i ds es
      cases r1 with | cons r rs =>
      cases rs with | cons r' rs =>
      cases rs
      cases r with | tup h r =>
      cases r' with | tup h' r' =>
      refine ⟨_, _, _, _, rfl, .inr ⟨SqT.of (E1.g _ _ h), SqT.of (E1.g _ _ h'), P1 _ G1 H1 Ext.refl E1 (ItR.pair (walk_zipT (K := W.K) rfl) (fun H s => ⟨SqT.of (s _ _ h), SqT.of (s _ _ h')⟩) (by unfold zipD; rw [List.length_zipWith, r.length, r'.length]) fun i d hd u v e1 e2 => ?_)⟩⟩
      obtain ⟨p, hp, rp⟩ := r.get' e1
      obtain ⟨q, hq, rq⟩ := r'.get' e2
      unfold zipD at hd
      rw [List.getElem?_zipWith, hp, hq] at hd
      cases hd
      exact ⟨_, _, rfl, rp, rq⟩
    · exact P1.elim)
end
end Np

set_option Elab.async false
set_option linter.all false
set_option maxRecDepth 100000
set_option maxHeartbeats 4000000
/-! try: .. except X as e: any suite that does not raise; e is tracked from the suite's begin on. -/
namespace Np
open PySem PySem.Spec PyProof.Rows L2
section
variable {X : Cx} {pins : List (Addr × Obj)} {σ : L2.St} {H : Hp} {s : Shared} {a : Addr}
theorem suiteT (I : L2.Inv X pins σ H s) (a : Addr) : L2.Inv (X.suite a (X.pn ++ pins)) [] σ H s :=
  ⟨I.ok.suite _ _, I.os, I.bare, I.base, I.loc, I.cell, I.free, I.freeC, fun p hp => I.pin p (by rw [List.append_nil] at hp; exact hp), I.hok, I.len⟩
theorem unsuiteT {pn' : List (Addr × Obj)} (I : L2.Inv (X.suite a (X.pn ++ pins)) pn' σ H s) (ok : X.Ok) : L2.Inv X pins σ H s :=
  ⟨ok, I.os, I.bare, I.base, I.loc, I.cell, I.free, I.freeC, fun p hp => I.pin p (List.mem_append_left _ hp), I.hok, I.len⟩
end
section
variable {X : Cx} {body suite : List Stmt} {b₀ : Stmt} {x n : Str} {i : Nat} {c : Value} {np pos' pos : Pos} {tb : WX → TS} {ts : TS} {Wout : WX}
def endsT (i : Nat) (D : Ends) : Ends :=
  ⟨fun σ' H' => D.nx (σ'.set i none) H', fun v H' => D.rt v H', fun σ' H' => D.bk (σ'.set i none) H', fun σ' H' => D.ct (σ'.set i none) H'⟩
def wTrk (K : PySem.W.Frag) (c : Value) (i : Nat) (ts : TS) (Wout : WX) (D : Ends) : WX := fun cls d σ H =>
  ∃ b, PySem.W.exmOne K cls c = some b ∧ (b = true → ∀ a oe vs, H a = none → Zc cls d oe → oe.data = .fields vs → ts (endsT i D) (σ.set i (some (.ref a))) (upd H a (exk a oe))) ∧ (b = false → Wout cls d σ H)
theorem ps_try_trk (hstk : X.stack = X.env :: X.outer) (hfrm : X.env.frame = some X.env.locals) (hex : X.ex = []) (hnd : X.N.Nodup) (hix : X.N[i]? = some n) (hkind : X.env.kindOf n = some .local) (hcls : Names X x c) (tk : Takes X Wout)
    (hbody : ∀ (W : WX) (pn : List (Addr × Obj)) (xe : Value → Shared → Prop), Takes (X.tr pn xe) W → PassesOwn (model X.prog X.w) X.A X.env xe → PSs (X.tr pn xe) body (tb W))
    (hsuite : ∀ (a : Addr) (pn : List (Addr × Obj)), PSs (X.suite a pn) (b₀ :: suite) ts) :
    PS X (.Try body [.ExceptHandler (some (.Name x np)) (some n) (b₀ :: suite) pos'] [] [] pos) (fun D σ H => tb (wTrk X.K c i ts Wout D) D σ H) := by
  refine ⟨fun pins s σ H D I hread => ?_⟩
  have okX := I.ok
  have fr0 : X.A.frames = some (X.env :: X.outer) := by rw [okX.frames, hstk]
  refine wpAny_Try_except ?_
  refine wpAny_mono ((hbody (wTrk X.K c i ts Wout D) (X.pn ++ pins) (fun er s₁ => wpAny (model X.prog X.w) X.A (noteFrame er X.env) (fun _ s₂ => wpAny (model X.prog X.w) X.A (setFlight er none) (fun _ s₃ =>
    wpAny (model X.prog X.w) X.A (handleBy er X.env [.ExceptHandler (some (.Name x np)) (some n) (b₀ :: suite) pos']) (SP X pins D) X.xe s₃) X.xe s₂) X.xe s₁) (fun u s' air => ?_) PassesOwn.looking).run [] s σ H D (I.toTry _) hread) (fun fl s1 hsp => ?_) (fun _ _ z => z)
  · obtain ⟨a, B, sI, pins', σ', H', cls, d, rfl, J', inB, up, sky, na, eos, gs, b, hb, yes, no⟩ := air
    have J : L2.Inv X pins σ' H' sI := J'.ofTry okX
    have sky1 : Sky B (X.env :: X.outer) a (Zc cls d) X.env.locals s'.heap := by rw [← hstk]; exact sky
    show wpAny (model X.prog X.w) X.A (noteFrame (.ref a) X.env) _ _ _
    refine Sky.land Zc.steady fr0 hfrm sky1 fun h3 f3 up3 => ?_
    have J3 : L2.Inv X pins σ' H' { s' with heap := h3 } := J.landed inB f3.1 (up.trans up3) eos gs
    obtain ⟨oe3, vs3, at3, z3, dat3⟩ := f3.there
    have outside : a ∉ frs (X.env :: X.outer) := fun hm => by
      obtain ⟨_, o', e', hnf⟩ := f3.2.2.1.mem hm
      rw [at3] at e'
      cases e'
      exact hnf _ dat3
    have nL : a ≠ X.env.locals := fun z => outside (List.mem_filterMap.mpr ⟨X.env, List.mem_cons_self, by rw [hfrm, z]⟩)
    have nF : a ∉ X.fs := fun hm => by
      obtain ⟨en, hen, q⟩ := List.mem_filterMap.mp hm
      exact outside (List.mem_filterMap.mpr ⟨en, List.mem_cons_of_mem _ hen, q⟩)
    have notI : sI.heap.get? a = none := by
      cases q : sI.heap.get? a with
      | none => rfl
      | some o =>
        have q2 := inB a o q (by rw [hstk]; exact outside)
        rw [f3.2.1] at q2
        cases q2
    have not0 : X.s_0.heap.get? a = none := by
      cases q : X.s_0.heap.get? a with
      | none => rfl
      | some o =>
        obtain ⟨o', q2⟩ := J.base.there a o q (by rw [hex]; simp)
        rw [notI] at q2
        cases q2
    have notP : ∀ p ∈ X.pn ++ pins, p.1 ≠ a := fun p hp z => by
      have q := (J.pin p hp).1
      rw [z, notI] at q
      cases q
    have S3 := J3.suite at3 dat3 na nL nF
    refine wpAny_handleBy_cons (codeAny_handlers_test ?_) (by intro q; cases q)
    have look1 : PySem.W.Looks (model X.prog X.w) h3 (typeOf (.ref a)) cls := fun A Q E s k q => wpAny_typeOf_ref (k _ _ at3) (by rw [z3.1]; exact q)
    have look2 := PySem.W.exm_one (M := model X.prog X.w) (J3.kIn) look1 hb
    have ask : ∀ {Q : Value → Shared → Prop} {E : Value → Shared → Prop}, Q c { s' with heap := h3 } → wpAny (model X.prog X.w) (X.A.mark (some (.ref a))) (eval (.Name x np) X.env) Q E { s' with heap := h3 } := fun {Q E} q => by
      obtain ⟨g1, g2, g3 | ⟨g3, g4, g5⟩⟩ := hcls
      · exact ld_glob (X := X.suite a ((a, oe3) :: (X.pn ++ pins))) S3 g1 g3 q g2
      · exact ld_blt (X := X.suite a ((a, oe3) :: (X.pn ++ pins))) S3 g1 g3 g4 q g5 g2
    refine ask (look2.here ?_)
    cases b with
    | true =>
      refine codeAny_handlers_suite_as ?_
      refine HandSPX.lands_againZ f3 fun h4 f4 up4 => ?_
      have J4 : L2.Inv X pins σ' H' { s' with heap := h4 } := J.landed inB f4.1 ((up.trans up3).trans up4) eos gs
      obtain ⟨oe4, vs4, at4, z4, dat4⟩ := f4.there
      have S4 := suiteT (track J4 at4 dat4 na not0 nL notP) a
      refine store_ok (X := X.suite a (X.pn ++ pins)) (v := .ref a) S4 hnd hix (.inl hkind) rfl (fun s5 S5 => ?_) (.inr hkind)
      refine wpAny_mono ((hsuite a (X.pn ++ pins)).run [] s5 _ _ _ S5 (yes rfl a oe4 vs4 na z4 dat4)) (fun fl s6 hsp => ?_) (fun _ _ z => False.elim z)
      have fin : ∀ {σ6 : L2.St} {H6 : Hp} {Q : Shared → Prop}, L2.Inv (X.suite a (X.pn ++ pins)) [] σ6 H6 s6 → (∀ s7, L2.Inv X pins (σ6.set i none) H6 s7 → Q s7) →
          wpAny (model X.prog X.w) X.A (do bindName X.env n .none; unbindBehindTheSuite X.env n pos') (fun _ s7 => Q s7) X.xe s6 := fun {σ6 H6 Q} S6 hq => gone_ok (unsuiteT S6 okX) hnd hix hkind hq
      cases fl with
      | next =>
        obtain ⟨σ6, H6, S6, q6⟩ := hsp
        exact fin S6 fun s7 J7 => ⟨_, _, J7, q6⟩
      | brk =>
        obtain ⟨σ6, H6, S6, q6⟩ := hsp
        exact fin S6 fun s7 J7 => ⟨_, _, J7, q6⟩
      | cont =>
        obtain ⟨σ6, H6, S6, q6⟩ := hsp
        exact fin S6 fun s7 J7 => ⟨_, _, J7, q6⟩
      | ret u =>
        obtain ⟨v6, σ6, H6, S6, r6, q6⟩ := hsp
        exact fin S6 fun s7 J7 => ⟨_, _, _, J7, r6, q6⟩
    | false =>
      show wpAny _ X.A (handleBy (.ref a) X.env []) _ _ _
      refine wpAny_handleBy_nil ?_
      obtain ⟨k1, k2, k3, oe, vs, T, oT, ts', he, hz, hdt, h1, hrr⟩ := id f3
      unfold PySem.passOn
      refine wpAny_bind (wpAny_field he hdt h1 ?_)
      rw [if_neg (show ¬ ((Value.ref T == Value.none) = true) from by simp)]
      have away : wpAny (model X.prog X.w) X.A (setFlight (.ref a) X.env.frame) (fun _ s4 => wpAny (model X.prog X.w) X.A (throw (.ref a) : Sem Flow) (SP X pins D) X.xe s4) X.xe { s' with heap := h3 } := by
        rw [hfrm]
        refine HandSPX.setFlight_upZ f3 fun h4 hh4 up4 => wpAny_throw (tk _ _ ?_)
        exact ⟨a, B, sI, pins, σ', H', cls, d, rfl, J, inB, (up.trans up3).trans up4, .inr (.inr (by rw [hstk]; exact hh4)), na, eos, gs, no rfl⟩
      first
        | exact wpAny_bind (wpAny_pure (wpAny_bind away))
        | exact wpAny_bind away
  · cases fl with
    | next =>
      obtain ⟨σ', H', J', q⟩ := hsp
      exact wpAny_execs_nil ⟨σ', H', J'.ofTry okX, q⟩
    | brk =>
      obtain ⟨σ', H', J', q⟩ := hsp
      exact ⟨σ', H', J'.ofTry okX, q⟩
    | cont =>
      obtain ⟨σ', H', J', q⟩ := hsp
      exact ⟨σ', H', J'.ofTry okX, q⟩
    | ret u =>
      obtain ⟨v, σ', H', J', r, q⟩ := hsp
      exact ⟨v, σ', H', J'.ofTry okX, r, q⟩
end
section
variable {W : Wp} {Wx : L2.St → XK}
def clrI (i : Nat) (r : R Ct) : R Ct := match r with
  | .ok (.nx ρ) τ => .ok (.nx (ρ.set i none)) τ
  | .ok (.bk ρ) τ => .ok (.bk (ρ.set i none)) τ
  | .ok (.ct ρ) τ => .ok (.ct (ρ.set i none)) τ
  | .ok (.rt d) τ => .ok (.rt d) τ
  | _ => .no
def dTryH (exm : Str → Option Bool) (i : Nat) (δ δh : DS) : DS := fun ρ τ => match δ ρ τ with
  | .ok (.xc x ρ1) τ1 => match exm x.cls with
    | some true => clrI i (δh (ρ1.set i (some (.fr (.exc x.cls x.fs)))) τ1)
    | some false => .ok (.xc x ρ1) τ1
    | none => .no
  | r => r
theorem Ps.clr {Wz : L2.St → XK} {tp0 : Option Addr} {G0 H0 G : Hp} {D : Ends} {i : Nat} {r : R Ct} (P : Ps W Wx tp0 G0 H0 G D (clrI i r)) : Ps W Wz tp0 G0 H0 G (endsT i D) r := by
  have un : ∀ {tp' : Option Addr} {G' H' : Hp} {σ' : L2.St} {ρ : PEnv} {τ : TS'}, EnvS W tp0 G0 H0 tp' G' H' σ' ρ τ → EnvS W tp0 G0 H0 tp' G' H' (σ'.set i none) (ρ.set i none) τ := fun E => E.sub E.v.setN (Sub.set fun _ z => by cases z)
  match r, P with
  | .ok (.nx ρ) τ, P => exact fun tp' G' H' σ' s E => P tp' G' H' _ s (un E)
  | .ok (.bk ρ) τ, P => exact fun tp' G' H' σ' s E => P tp' G' H' _ s (un E)
  | .ok (.ct ρ) τ, P => exact fun tp' G' H' σ' s E => P tp' G' H' _ s (un E)
  | .ok (.rt d) τ, P => exact P
  | .ok (.ro d) τ, P => exact P.elim
  | .ok (.xc x ρ) τ, P => exact P.elim
  | .ex x τ, P => exact P.elim
  | .no, P => exact P.elim
theorem ds_tryH {tb : WX → L2.TS} {ts : L2.TS} {δ δh : DS} {c : Value} {i : Nat} {exm : Str → Option Bool} (hx : ∀ s b, exm s = some b → PySem.W.exmOne W.K (.ref (W.cm s)) c = some b)
    (hb : ∀ Wz : WX, DnS W (fun σ cls d H => Wz cls d σ H) (tb Wz) δ) (hh : DnS W (fun _ _ _ _ => False) ts δh) :
    DnS W Wx (fun D σ H => tb (wTrk W.K c i ts (fun cls d σ H => Wx σ cls d H) D) D σ H) (dTryH exm i δ δh) := fun tp0 G0 H0 tp G H σ ρ τ D E P => by
  refine hb _ _ _ _ _ _ _ _ _ _ _ E ?_
  unfold dTryH at P
  revert P
  match δ ρ τ with
  | .ok (.nx ρ') τ' => exact fun P => P
  | .ok (.bk ρ') τ' => exact fun P => P
  | .ok (.ct ρ') τ' => exact fun P => P
  | .ok (.rt d) τ' => exact fun P => P
  | .ok (.ro d) τ' => exact fun P => P
  | .ex x τ' => exact fun P => P
  | .no => exact fun P => P
  | .ok (.xc x ρ1) τ1 =>
    intro P d tp' G1 H1 σ1 s1 E1 hxr
    cases hm : exm x.cls with
    | none => simp only [hm] at P; exact P.elim
    | some b =>
      refine ⟨b, hx _ _ hm, fun hb1 a oe vs na z dt => ?_, fun hb0 => ?_⟩
      · subst hb1
        simp only [hm] at P
        obtain ⟨xs, hd, rf⟩ := hxr
        have E2 : EnvS W tp0 G0 H0 tp' (upd G1 a (exk a oe)) (upd H1 a (exk a oe)) σ1 ρ1 τ1 := E1.step (Ext.new na E1.v.g) (E1.v.new na)
        have sg : Same G1 (upd G1 a (exk a oe)) := same_new (E1.v.g.free na)
        have r : Rp W.K W.cm (upd G1 a (exk a oe)) (.ref a) (.exc x.cls x.fs) := .exc upd_same z dt (hd.mono sg) (rf.mono sg)
        have E3 := (E2.setF (i := i) r)
        exact hh _ _ _ _ _ _ _ _ _ _ E3 (Ps.clr (Ps.shift P (s1.trans sg)))
      · subst hb0
        simp only [hm] at P
        exact P d tp' G1 H1 σ1 s1 E1 hxr
end
end Np

set_option Elab.async false
set_option linter.all false
set_option maxRecDepth 100000
set_option maxHeartbeats 4000000
/-! enumerate(tuple); min(list of whole numbers, default=None) -/
namespace Np
open PySem PySem.Spec PyProof.Rows L2
set_option maxHeartbeats 1000000 in
theorem meets_enumerate_new1 {v : Value} {o : Obj} {H : Heap → Prop} (B : Begins v o H) :
    Meets (Builtin.«enumerate.__new__» ⟨[.type "enumerate", v], []⟩) (fun _ R s => H s.heap ∧
      R (.ok (.ret (.ref (s.heap.push o).objs.size))) { s with heap := (s.heap.push o).push { cls := .type "enumerate", data := .fields #[.none, .bool false, .ref s.heap.objs.size, rawInt 0, .none, .none] } }) :=
  .of_wp fun prog w A R s h => by
    obtain ⟨hp, g, d, tk, os⟩ := s; obtain ⟨h1, h⟩ := h
    have hsub := sub_enumerate
    have q1 : ∀ {A' : Around} {E : Value → Shared → Prop} {Q : Value → Shared → Prop}, Q (.ref hp.objs.size) ⟨hp.push o, g, d, tk, os⟩ → wpAny (model prog w) A' (pyIter v) Q E ⟨hp, g, d, tk, os⟩ :=
      fun q => B.iter prog w _ _ ⟨hp, g, d, tk, os⟩ _ h1 q
    wp_walk
    refine wpAny_stack_any fun st => wpAny_pure ?_
    split
    · rename_i c _ _ _ _ _
      cases (c == Value.type "enumerate")
      · wp_walk using q1
        exact ⟨_, rfl, h⟩
      · wp_walk using q1
        exact ⟨_, rfl, h⟩
    · wp_walk using q1
      exact ⟨_, rfl, h⟩
theorem enum_begins1 {prog : Program} {w : World} {A : Around} {E : Value → Shared → Prop} {s : Shared} {v : Value} {o : Obj} {H : Heap → Prop} {Q : Value → Shared → Prop} (B : Begins v o H) (h1 : H s.heap)
    (h : ∀ h', IsEnum h' (s.heap.objs.size + 1) s.heap.objs.size 0 .none → h'.get? s.heap.objs.size = some o → h'.objs.size = s.heap.objs.size + 2 →
      (∀ b o, s.heap.get? b = some o → h'.get? b = some o) → Q (.ref (s.heap.objs.size + 1)) { s with heap := h' }) :
    wpAny (model prog w) A (call (.type "enumerate") [v]) Q E s := by
  refine callType_new F.called_enumerate (by decide) (F.typeCall_enumerate_1 _) (F.newCall_enumerate_1 _) (fun obj => F.args_object_init_2 obj _) F.entry_enumerate_new
    (meets_enumerate_new1 B) ⟨h1, ?_⟩
  have hz : (s.heap.push o).objs.size = s.heap.objs.size + 1 := Heap.size_push ..
  show _ ∧ _
  rw [hz]
  have he : IsEnum ((s.heap.push o).push { cls := .type "enumerate", data := .fields #[.none, .bool false, .ref s.heap.objs.size, rawInt 0, .none, .none] }) (s.heap.objs.size + 1) s.heap.objs.size 0 .none := by
    have := Heap.get?_push_size (s.heap.push o) (o := { cls := .type "enumerate", data := .fields #[.none, .bool false, .ref s.heap.objs.size, rawInt 0, .none, .none] }) rfl
    rw [hz] at this; exact this
  refine ⟨⟨_, he, rfl⟩, h _ he (Heap.get?_push_of_some _ (Heap.get?_push_size _ B.free)) (by rw [Heap.size_push, hz]) fun b o x => Heap.get?_push_of_some _ (Heap.get?_push_of_some _ x)⟩
def IteT (K : PySem.W.Frag) (a : Addr) : It :=
  ⟨fun i H => ∃ (xs : List V) (x : V), SqT K H a xs ∧ xs[i]? = some x, fun i H v H' => ∃ T x, v = .ref T ∧ H T = none ∧ H' = upd H T (.tup [.int ((i : Nat)), x]) ∧ ∀ xs, SqT K H a xs → xs[i]? = some x, fun i H => ∃ xs : List V, SqT K H a xs ∧ xs.length = i⟩
theorem turn_enumT {P : Program} {w : World} {K : PySem.W.Frag} {elts : List Expr} {kk : Nat} {tpos : Pos} (a e it : Addr) :
    Turn P w K (.Tuple elts kk tpos) (IteT K a) [e, it] e (fun i h => (∃ old, IsEnum h e it ((i : Nat)) old) ∧ h.IsTupleIter it a i ∧ e ≠ it ∧ a ≠ it ∧ e ≠ a) where
  mem := by simp
  obj := fun i h st b hb => by
    obtain ⟨⟨old, he⟩, ⟨o, ho, hc, hd⟩, _⟩ := st
    have e' : b = e ∨ b = it := by simpa using hb
    rcases e' with z | z
    · rw [z]; exact ⟨_, he, fun v q => nomatch q⟩
    · rw [z]; exact ⟨o, ho, fun v q => by rw [hd] at q; cases q⟩
  keep := fun i h h' st k => by
    obtain ⟨⟨old, he⟩, hi, hne⟩ := st
    exact ⟨⟨old, k e (by simp) _ he⟩, hi.at fun o q => k it (by simp) o q, hne⟩
  item := by
    intro X hP hw hK hc i pins s σ H E I hf st hg
    subst hP hw hK
    obtain ⟨⟨old, he⟩, hit, hne, hai, hea⟩ := st
    obtain ⟨xs, x, hq, hx⟩ := hg
    obtain ⟨its, rv, p, hz⟩ := I.tuple hq
    obtain ⟨u, hu, ru⟩ := rv.get hx
    have hel : e < s.heap.objs.size := Heap.lt_size he
    have hil : it < s.heap.objs.size := by obtain ⟨_, q, _⟩ := hit; exact Heap.lt_size q
    have hlt : i < its.toArray.size := by have := (List.getElem?_eq_some_iff.mp hu).1; simpa using this
    have D := Draws.tuple (prog := X.prog) (w := X.w) (A := X.A.in1) (I.ok.hd hc) it a hai its.toArray
    refine wpAny_pyNext_enum_itemC D he ⟨hit, p⟩ hlt hne (by simp only [List.mem_cons, List.not_mem_nil, or_false]; exact fun z => z.elim hne hea) fun x' h' tk hP ho hs' hT hsz hk => ?_
    have hxu : x' = u := by
      have h1 : its.toArray[i]? = some u := by simpa using hu
      rw [h1] at hP
      exact (Option.some.inj hP).symm
    subst hxu
    refine ⟨_, rfl, wpAny_letOwnedTupleGo_enum (s := { s with heap := h', toks := tk + 1 }) ho fun h'' he' sb => ?_⟩
    have hT2 : h''.get? s.heap.objs.size = some { cls := .type "tuple", data := .seq #[.int ((i : Nat)) tk, x'] } := (sb.2 _ (Nat.ne_of_gt hel)).trans hT
    have new : ObjOk X.prog X.w (upd H s.heap.objs.size (.tup [.int ((i : Nat)), x])) h'' s.heap.objs.size (.tup [.int ((i : Nat)), x]) :=
      ⟨by show 2 ≤ sizeLine; decide, [.int ((i : Nat)) tk, x'], .cons ⟨_, rfl⟩ (.cons ru .nil), ⟨_, hT2, rfl, _, rfl⟩⟩
    have I1 : Inv X pins σ (upd H s.heap.objs.size (.tup [.int ((i : Nat)), x])) { s with heap := h'', toks := tk + 1 } :=
      I.turnedNew (ch := [e, it]) (fun b ob hb q => (sb.2 b (fun z => hb (by simp [z]))).trans (hk b ob (fun z => hb (by simp [z])) (fun z => hb (by simp [z])) q)) hf (Nat.le_refl _) new
    refine ⟨.ref s.heap.objs.size, _, I1, rfl, ⟨_, x, rfl, I.hok.fresh (Nat.le_refl _), rfl, fun ys hy => by rw [I.tuple_inj hy hq]; exact hx⟩, ⟨⟨x', ?_⟩, hs'.1.at fun o q => (sb.2 it (Ne.symm hne)).trans q, hne, hai, hea⟩, fun b hb => ?_⟩
    · have e1 : ((i + 1 : Nat) : Int) = (i : Int) + 1 := by omega
      rw [e1]; exact he'
    · have hb' : b < s.heap.objs.size := by
        have e' : b = e ∨ b = it := by simpa using hb
        rcases e' with z | z
        · rw [z]; exact hel
        · rw [z]; exact hil
      rw [upd_ne (Nat.ne_of_lt hb')]
      exact (hf b hb).1
  done := by
    intro X hP hw hK hc i pins s σ H E I hf st hg
    subst hP hw hK
    obtain ⟨⟨old, he⟩, hit, hne, hai, hea⟩ := st
    obtain ⟨xs, hq, hx⟩ := hg
    obtain ⟨its, rv, p, hz⟩ := I.tuple hq
    obtain ⟨f0, f1, f2, f3, f4, f5⟩ := hf it (by simp)
    have hl := rv.length
    have D := Draws.tuple (prog := X.prog) (w := X.w) (A := X.A.in1) (I.ok.hd hc) it a hai its.toArray
    have hi : i = its.toArray.size := by simp; omega
    subst hi
    exact wpAny_pyNext_enum_endD D he ⟨hit, p⟩ fun h' eb => ⟨rfl, I.turned (t' := s.toks) (fun b o hb q => eb b o hb q) f0 f1 f3 f4 f5⟩
  self := fun A i s Q E st h => by
    obtain ⟨⟨_, he⟩, _⟩ := st
    exact wpAny_pyIter_enum he h
def iEnumT (K : PySem.W.Frag) (ta : TA) : TI := fun σ H R => ta σ H fun vs H1 => ∃ a xs, vs = [.ref a] ∧ SqT K H1 a xs ∧ R (IteT K a) H1
theorem pi_enumT {X : Cx} (K : PySem.W.Frag) {e : Expr} {ta : TA} {p pos tpos : Pos} {elts : List Expr} {kk : Nat} (hg : Gl X "enumerate") (hm : X.mg "enumerate" = none) (ha : PA X [e] ta)
    (hs : starEach [e] X.env = [(false, eval e X.env)] := by rfl) (hK : X.K = K := by rfl) :
    PI X (.Tuple elts kk tpos) (.Call (.Name "enumerate" p) [e] [] pos) (iEnumT K ta) := by
  subst hK
  refine ⟨fun pins s σ H R I h => ?_⟩
  refine Call_ (ld_blt I hg hm PyProof.Rows.boot_enumerate (PyProof.Rows.callWith_type1 (thn (ha.run pos pins s σ H _ I h) fun us s1 hh => ?_) hs))
  obtain ⟨vs, H1, I1, r1, a, xs, rfl, hq, q⟩ := hh
  cases r1 with | cons r rr =>
  cases rr
  cases r
  obtain ⟨its, rv, p', hz⟩ := I1.tuple hq
  have hal : a < s1.heap.objs.size := by
    obtain ⟨o, ho, _⟩ := id p'
    exact Heap.lt_size ho
  refine enum_begins1 (begins_tuple a its.toArray) p' fun h' he hit hsz hk => wpAny_pyIter_enum he ?_
  have I3 : Inv X pins σ H1 { s1 with heap := h' } := I1.kept (t' := s1.toks) hk
  refine ⟨s1.heap.objs.size + 1, [s1.heap.objs.size + 1, s1.heap.objs.size], _, _, H1, rfl, I3, turn_enumT a (s1.heap.objs.size + 1) s1.heap.objs.size, ⟨⟨.none, by simpa using he⟩, ⟨_, hit, rfl, rfl⟩, Nat.succ_ne_self _, Nat.ne_of_lt hal, Nat.ne_of_gt (Nat.lt_succ_of_lt hal)⟩, fun b hb => ?_, q⟩
  have e' : b = s1.heap.objs.size + 1 ∨ b = s1.heap.objs.size := by simpa using hb
  have hle : s1.heap.objs.size ≤ b := by
    rcases e' with z | z
    · rw [z]; exact Nat.le_add_right _ _
    · rw [z]; exact Nat.le_refl _
  exact I1.fpOk hle (I1.hok.fresh hle)
section
variable {W : Wp} {Wx : L2.St → XK} {tr tk : TA} {δr δk : DA}
theorem walk_enumT {K : PySem.W.Frag} {a : Addr} {xs : List V} : Walk (IteT K a) xs.length (fun H => SqT K H a xs) (YPair (fun i => some (.int (i : Nat))) (fun i => xs[i]?)) := by
  refine ⟨fun i _ hi q => ⟨xs, xs[i], q, by simp [hi]⟩, fun _ q => ⟨xs, q, rfl⟩, fun i H v H' _ q y => ?_⟩
  obtain ⟨T, x, h1, h2, h3, h4⟩ := y
  exact ⟨T, .int (i : Nat), x, h1, h2, h3, rfl, h4 xs q⟩
def dIEnumT (a : DA) : DI := fun ρ τ => (a ρ τ).bind fun x τ1 => match x with
  | [.tup ds] => .ok (enumD ds) τ1
  | _ => .no
theorem di_enumT (hr : DnA W Wx tr δr) : DnI W Wx (iEnumT W.K tr) (dIEnumT δr) := fun tp G H σ ρ τ Q E P =>
  hr _ _ _ _ _ _ _ E (P.bind fun a τ1 x G1 H1 e1 E1 r1 P1 => by
    split at P1
    · rename_i ds
      cases r1 with | cons r rs =>
      cases rs
      cases r with | tup h r =>
      refine ⟨_, _, rfl, SqT.of (E1.g _ _ h), P1 _ G1 H1 Ext.refl E1 (ItR.pair (walk_enumT (K := W.K)) (fun H s => SqT.of (s _ _ h)) (by unfold enumD; rw [List.length_mapIdx, r.length]) fun i d hd u v e1 e2 => ?_)⟩
      unfold enumD at hd
      rw [List.getElem?_mapIdx] at hd
      obtain ⟨c, hc, rfl⟩ := Option.map_eq_some_iff.mp hd
      obtain ⟨y, hy, ry⟩ := r.get hc
      cases e1
      rw [hy] at e2
      cases e2
      exact ⟨_, _, rfl, .int _, ry⟩
    · exact P1.elim)
end
end Np

set_option Elab.async false
set_option linter.all false
set_option maxRecDepth 100000
set_option maxHeartbeats 4000000
/-! min(list of whole numbers, default=None) -/
namespace Np
open PySem PySem.Spec PyProof.Rows L2
def rMinD (K : PySem.W.Frag) : List V → List V → Hp → VK → Prop := fun vs zs H Q => ∃ (a : Addr) (ns : List Int), vs = [.ref a] ∧ zs = [.non] ∧ SqL K H a (ns.map V.int) ∧ (ns = [] → Q .non H) ∧ ∀ n ms, ns = n :: ms → Q (.int (minL n ms)) H
theorem minOf_int : ∀ (ys : List Int) (y : Int), PySem.W.minOf y ys = minL y ys
  | [], y => rfl
  | z :: ys, y => by
    show PySem.W.minOf (if PySem.W.DatumOrd.lt z y = true then z else y) ys = minL (min y z) ys
    have e : (if PySem.W.DatumOrd.lt z y = true then z else y) = min y z := by
      show (if decide (z < y) = true then z else y) = _
      by_cases h : z < y <;> simp [h] <;> omega
    rw [e, minOf_int ys]
section
variable {X : Cx} {k : Nat}
theorem cr_minD (hc : X.calm = true) (hr : Room k X.A) : CallRK X (.builtin "min") [Str.ofString "default"] (rMinD X.K) := by
  intro pins s σ H vs zs us ws Q I r rz h
  obtain ⟨a, ns, rfl, rfl, hl, h0, h1⟩ := h
  obtain rfl := Vals.ref1 r
  cases rz with | cons rz rr =>
  cases rr
  cases rz
  obtain ⟨its, rv, pl, _⟩ := I.list hl
  show wpAny _ _ (call (.builtin "min") [.ref a] [(Str.ofString "default", .none)]) _ _ _
  refine PySem.W.min_list_datum_default (α := Int) (xs := ns) (I.ok.hd hc) pl.isList (by simpa using PySem.W.HoldAll.of_ints rv.ints) (by have := hr.un; show X.A.units + 1 + 0 < _; omega) (fun e h' tk hk => ⟨.non, H, I.kept hk, rfl, h0 e⟩) fun y ys i v h' tk e hi hv hk => ?_
  obtain ⟨as, rd⟩ := hv
  rw [minOf_int] at rd
  have : ∃ t, v = .int (minL y ys) t := by
    cases rd
    exact ⟨_, rfl⟩
  obtain ⟨t, rfl⟩ := this
  exact ⟨.int _, H, I.kept hk, ⟨t, rfl⟩, h1 y ys e⟩
end
def gMinD (ds : List DD) : Option DD := match ints? ds with
  | some [] => some .non
  | some (n :: ns) => some (.int (minL n ns))
  | none => none
def dMinD (a : DA) : DE := fun ρ τ => (a ρ τ).bind fun xs τ1 => match xs with
  | [.lst ds] => R.of τ1 (gMinD ds)
  | _ => .no
section
variable {W : Wp} {Wx : L2.St → XK} {ta : TA} {δa : DA}
theorem dn_minD (ha : DnA W Wx ta δa) : Dn W Wx (tCKw (rMinD W.K) ta (tCons (tC .non) tNil)) (dMinD δa) := fun tp G H σ ρ τ Q E P =>
  ha _ _ _ _ _ _ _ E (P.bind fun as τ1 vs G1 H1 e1 E1 r1 P1 => by
    split at P1
    · rename_i ds
      cases r1 with | cons r rr =>
      cases rr
      cases r with | lst hl ra =>
      rename_i l us
      obtain ⟨d, hd, P2⟩ := P1.of
      unfold gMinD at hd
      split at hd
      · rename_i h1
        cases hd
        cases ints?_eq h1
        refine ⟨_, [], rfl, rfl, by rw [← ra.ints_of]; exact SqL.of (E1.g _ _ hl), fun _ => P2 _ G1 H1 Ext.refl E1 .non, fun n ms e => nomatch e⟩
      · rename_i n ns h1
        cases hd
        cases ints?_eq h1
        refine ⟨_, n :: ns, rfl, rfl, by rw [← ra.ints_of]; exact SqL.of (E1.g _ _ hl), (fun e => (nomatch e)), fun n' ms e => by cases e; exact P2 _ G1 H1 Ext.refl E1 (.int _)⟩
      · cases hd
    · exact P1.elim)
end
end Np

set_option Elab.async false
set_option linter.all false
set_option maxRecDepth 100000
set_option maxHeartbeats 4000000
namespace Np
open PySem PySem.Spec PyProof.Rows L2
/-! ### except of 6 classes as n, the exception kept -/
theorem exm_many6 {M : Model} {K : PySem.W.Frag} {c1 c2 c3 c4 c5 c6 cls : Value} {tp x : Addr} {b : Bool} {h : Heap} (inK : K.In h) (lt : PySem.W.Looks M h (typeOf (.ref x)) cls) (hp : h.get? tp = some { cls := .type "tuple", data := .seq [c1, c2, c3, c4, c5, c6].toArray })
    (hx : PySem.W.exmAny K cls [c1, c2, c3, c4, c5, c6] = some b) : PySem.W.Looks M h (excMatches (.ref x) (.ref tp)) b := by
  intro A Q E s k₀ fin
  obtain ⟨hh, g, d, tk, os⟩ := s
  have kp : ∀ b o, h.get? b = some o → hh.get? b = some o := k₀
  have lt0 : PySem.W.Looks M h (isInstance (.ref tp) (.type "tuple")) true := ((PySem.W.Looks.ld hp).andThen .now).andThen (PySem.W.Looks.of_pure isSubtype_tuple_tuple)
  obtain ⟨b1, d1, x1, y1, z1⟩ := PySem.W.exmAny_cons hx
  obtain ⟨p1, q1⟩ := PySem.W.exm_cls (M := M) inK x1
  replace p1 := p1.keeps kp
  replace q1 := q1.keeps kp
  obtain ⟨b2, d2, x2, y2, z2⟩ := PySem.W.exmAny_cons y1
  obtain ⟨p2, q2⟩ := PySem.W.exm_cls (M := M) inK x2
  replace p2 := p2.keeps kp
  replace q2 := q2.keeps kp
  obtain ⟨b3, d3, x3, y3, z3⟩ := PySem.W.exmAny_cons y2
  obtain ⟨p3, q3⟩ := PySem.W.exm_cls (M := M) inK x3
  replace p3 := p3.keeps kp
  replace q3 := q3.keeps kp
  obtain ⟨b4, d4, x4, y4, z4⟩ := PySem.W.exmAny_cons y3
  obtain ⟨p4, q4⟩ := PySem.W.exm_cls (M := M) inK x4
  replace p4 := p4.keeps kp
  replace q4 := q4.keeps kp
  obtain ⟨b5, d5, x5, y5, z5⟩ := PySem.W.exmAny_cons y4
  obtain ⟨p5, q5⟩ := PySem.W.exm_cls (M := M) inK x5
  replace p5 := p5.keeps kp
  replace q5 := q5.keeps kp
  obtain ⟨b6, d6, x6, y6, z6⟩ := PySem.W.exmAny_cons y5
  obtain ⟨p6, q6⟩ := PySem.W.exm_cls (M := M) inK x6
  replace p6 := p6.keeps kp
  replace q6 := q6.keeps kp
  have w6 : some false = some d6 := y6
  cases w6
  replace lt := lt.keeps kp
  replace lt0 := lt0.keeps kp
  have hp2 := kp _ _ hp
  subst z1 z2 z3 z4 z5 z6
  unfold excMatches
  refine wpAny_bind (lt0.at ?_)
  dsimp only
  rw [if_pos rfl]
  first
    | refine wpAny_bind (wpAny_seqItems hp2 rfl ?_)
    | refine wpAny_bind (wpAny_bind (wpAny_seqItems hp2 rfl (wpAny_pure ?_)))
  dsimp only [Option.getD_some, Option.getD]
  cases b1 <;> cases b2 <;> cases b3 <;> cases b4 <;> cases b5 <;> cases b6 <;> ((repeat (first | simp only [List.forIn_cons, List.forIn_nil, Bool.not_true, Bool.false_eq_true, if_false, if_true] | lk)); exact fin)
section
variable {X : Cx} {body suite : List Stmt} {b₀ : Stmt} {x1 x2 x3 x4 x5 x6 n : Str} {i kt : Nat} {c1 c2 c3 c4 c5 c6 : Value} {np1 np2 np3 np4 np5 np6 npt pos' pos : Pos} {tb : WX → TS} {ts : Addr → Value → Option Addr → TS} {Wout : WX}
theorem ps_try_keep6 (hstk : X.stack = X.env :: X.outer) (hfrm : X.env.frame = some X.env.locals) (hex : X.ex = []) (hnd : X.N.Nodup) (hix : X.N[i]? = some n) (hkind : X.env.kindOf n = some .local) (hc1 : Names X x1 c1) (hc2 : Names X x2 c2) (hc3 : Names X x3 c3) (hc4 : Names X x4 c4) (hc5 : Names X x5 c5) (hc6 : Names X x6 c6) (tk : Takes X Wout)
    (hbody : ∀ (W : WX) (pn : List (Addr × Obj)) (xe : Value → Shared → Prop), Takes (X.tr pn xe) W → PassesOwn (model X.prog X.w) X.A X.env xe → PSs (X.tr pn xe) body (tb W))
    (hsuite : ∀ (a : Addr) (oe : Obj) (cls : Value) (d : Option Addr) (pn : List (Addr × Obj)), Zc cls d oe → (∃ vs, oe.data = .fields vs) → PSs (X.suite a ((a, oe) :: pn)) (b₀ :: suite) (ts a cls d))
    (hst : starEach [.Name x1 np1, .Name x2 np2, .Name x3 np3, .Name x4 np4, .Name x5 np5, .Name x6 np6] X.env = [(false, eval (.Name x1 np1) X.env), (false, eval (.Name x2 np2) X.env), (false, eval (.Name x3 np3) X.env), (false, eval (.Name x4 np4) X.env), (false, eval (.Name x5 np5) X.env), (false, eval (.Name x6 np6) X.env)] := by rfl) :
    PS X (.Try body [.ExceptHandler (some (.Tuple [.Name x1 np1, .Name x2 np2, .Name x3 np3, .Name x4 np4, .Name x5 np5, .Name x6 np6] kt npt)) (some n) (b₀ :: suite) pos'] [] [] pos) (fun D σ H => tb (wKeepT X.K [c1, c2, c3, c4, c5, c6] i ts Wout D) D σ H) := by
  refine ⟨fun pins s σ H D I hread => ?_⟩
  have okX := I.ok
  have fr0 : X.A.frames = some (X.env :: X.outer) := by rw [okX.frames, hstk]
  refine wpAny_Try_except ?_
  refine wpAny_mono ((hbody (wKeepT X.K [c1, c2, c3, c4, c5, c6] i ts Wout D) (X.pn ++ pins) (fun er s₁ => wpAny (model X.prog X.w) X.A (noteFrame er X.env) (fun _ s₂ => wpAny (model X.prog X.w) X.A (setFlight er none) (fun _ s₃ =>
    wpAny (model X.prog X.w) X.A (handleBy er X.env [.ExceptHandler (some (.Tuple [.Name x1 np1, .Name x2 np2, .Name x3 np3, .Name x4 np4, .Name x5 np5, .Name x6 np6] kt npt)) (some n) (b₀ :: suite) pos']) (SP X pins D) X.xe s₃) X.xe s₂) X.xe s₁) (fun u s' air => ?_) PassesOwn.looking).run [] s σ H D (I.toTry _) hread) (fun fl s1 hsp => ?_) (fun _ _ z => z)
  · obtain ⟨a, B, sI, pins', σ', H', cls, d, rfl, J', inB, up, sky, na, eos, gs, b, hb, yes, no⟩ := air
    have J : L2.Inv X pins σ' H' sI := J'.ofTry okX
    have sky1 : Sky B (X.env :: X.outer) a (Zc cls d) X.env.locals s'.heap := by rw [← hstk]; exact sky
    show wpAny (model X.prog X.w) X.A (noteFrame (.ref a) X.env) _ _ _
    refine Sky.land Zc.steady fr0 hfrm sky1 fun h3 f3 up3 => ?_
    have J3 : L2.Inv X pins σ' H' { s' with heap := h3 } := J.landed inB f3.1 (up.trans up3) eos gs
    obtain ⟨oe3, vs3, at3, z3, dat3⟩ := f3.there
    have outside : a ∉ frs (X.env :: X.outer) := fun hm => by
      obtain ⟨_, o', e', hnf⟩ := f3.2.2.1.mem hm
      rw [at3] at e'
      cases e'
      exact hnf _ dat3
    have nL : a ≠ X.env.locals := fun z => outside (List.mem_filterMap.mpr ⟨X.env, List.mem_cons_self, by rw [hfrm, z]⟩)
    have nF : a ∉ X.fs := fun hm => by
      obtain ⟨en, hen, q⟩ := List.mem_filterMap.mp hm
      exact outside (List.mem_filterMap.mpr ⟨en, List.mem_cons_of_mem _ hen, q⟩)
    have notI : sI.heap.get? a = none := by
      cases q : sI.heap.get? a with
      | none => rfl
      | some o =>
        have q2 := inB a o q (by rw [hstk]; exact outside)
        rw [f3.2.1] at q2
        cases q2
    have not0 : X.s_0.heap.get? a = none := by
      cases q : X.s_0.heap.get? a with
      | none => rfl
      | some o =>
        obtain ⟨o', q2⟩ := J.base.there a o q (by rw [hex]; simp)
        rw [notI] at q2
        cases q2
    have notP : ∀ p ∈ X.pn ++ pins, p.1 ≠ a := fun p hp z => by
      have q := (J.pin p hp).1
      rw [z, notI] at q
      cases q
    have S3 := J3.suite at3 dat3 na nL nF
    refine wpAny_handleBy_cons (codeAny_handlers_test ?_) (by intro q; cases q)
    have look1 : PySem.W.Looks (model X.prog X.w) h3 (typeOf (.ref a)) cls := fun A Q E s k q => wpAny_typeOf_ref (k _ _ at3) (by rw [z3.1]; exact q)
    have ask : ∀ {x : Str} {c : Value} {np : Pos} {Q : Value → Shared → Prop} {E : Value → Shared → Prop}, Names X x c → Q c { s' with heap := h3 } → wpAny (model X.prog X.w) (X.A.mark (some (.ref a))) (eval (.Name x np) X.env) Q E { s' with heap := h3 } := fun {x c np Q E} hcls q => by
      obtain ⟨g1, g2, g3 | ⟨g3, g4, g5⟩⟩ := hcls
      · exact ld_glob (X := X.suite a ((a, oe3) :: (X.pn ++ pins))) S3 g1 g3 q g2
      · exact ld_blt (X := X.suite a ((a, oe3) :: (X.pn ++ pins))) S3 g1 g3 g4 q g5 g2
    obtain ⟨h5, hh5⟩ : ∃ h5, h5 = h3.push { cls := .type "tuple", data := .seq [c1, c2, c3, c4, c5, c6].toArray } := ⟨_, rfl⟩
    have k5 : ∀ b o, h3.get? b = some o → h5.get? b = some o := fun b o e => by rw [hh5]; exact Heap.get?_push_of_some _ e
    have up5 : h3.UpToSlots h5 := fun b o e _ => ⟨o.slots, k5 b o e⟩
    have f5 := flying_more k5 f3
    have at5 := k5 _ _ at3
    have tup5 : h5.get? h3.objs.size = some { cls := .type "tuple", data := .seq [c1, c2, c3, c4, c5, c6].toArray } := by rw [hh5]; exact Heap.get?_push_size _ rfl
    have J5 : L2.Inv X pins σ' H' { s' with heap := h5 } := J.landed inB f5.1 ((up.trans up3).trans up5) eos gs
    have look5 : PySem.W.Looks (model X.prog X.w) h5 (typeOf (.ref a)) cls := fun A Q E s k q => wpAny_typeOf_ref (k _ _ at5) (by rw [z3.1]; exact q)
    have look2 := exm_many6 (M := model X.prog X.w) (J5.kIn) look5 tup5 hb
    have askT : ∀ {Q : Value → Shared → Prop} {E : Value → Shared → Prop}, Q (.ref h3.objs.size) { s' with heap := h5 } → wpAny (model X.prog X.w) (X.A.mark (some (.ref a))) (eval (.Tuple [.Name x1 np1, .Name x2 np2, .Name x3 np3, .Name x4 np4, .Name x5 np5, .Name x6 np6] kt npt) X.env) Q E { s' with heap := h3 } := fun {Q E} q => by
      refine wpAny_Tuple_spliced ?_
      rw [hst]
      refine Calls.spliced_cons (ask hc1 (Calls.spliced_cons (ask hc2 (Calls.spliced_cons (ask hc3 (Calls.spliced_cons (ask hc4 (Calls.spliced_cons (ask hc5 (Calls.spliced_cons (ask hc6 (Calls.spliced_nil ⟨by show 6 ≤ sizeLine; decide, ?_⟩))))))))))))
      rw [hh5] at q
      exact q
    refine askT (look2.here ?_)
    cases b with
    | true =>
      refine codeAny_handlers_suite_as ?_
      refine HandSPX.lands_againZ f5 fun h4 f4 up4 => ?_
      have J4 : L2.Inv X pins σ' H' { s' with heap := h4 } := J.landed inB f4.1 (((up.trans up3).trans up5).trans up4) eos gs
      obtain ⟨oe4, vs4, at4, z4, dat4⟩ := f4.there
      have S4 := J4.suite at4 dat4 na nL nF
      refine store_ok (X := X.suite a ((a, oe4) :: (X.pn ++ pins))) (v := .ref a) S4 hnd hix (.inl hkind) rfl (fun s5 S5 => ?_) (.inr hkind)
      refine wpAny_mono ((hsuite a oe4 cls d (X.pn ++ pins) z4 ⟨_, dat4⟩).run [] s5 _ H' _ S5 (yes rfl a oe4 vs4 na z4 dat4)) (fun fl s6 hsp => ?_) (fun _ _ z => False.elim z)
      have fin : ∀ {σ6 : L2.St} {H6 : Hp} {Q : Shared → Prop}, L2.Inv (X.suite a ((a, oe4) :: (X.pn ++ pins))) [] σ6 H6 s6 → (∀ s7, L2.Inv X pins (σ6.set i none) (upd H6 a (exk a oe4)) s7 → Q s7) →
          wpAny (model X.prog X.w) X.A (do bindName X.env n .none; unbindBehindTheSuite X.env n pos') (fun _ s7 => Q s7) X.xe s6 := fun {σ6 H6 Q} S6 hq => by
        obtain ⟨p1, p2, _⟩ := S6.pin (a, oe4) (List.mem_append_left _ List.mem_cons_self)
        exact gone_ok (track (S6.unsuite okX) p1 dat4 p2 not0 nL notP) hnd hix hkind hq
      cases fl with
      | next =>
        obtain ⟨σ6, H6, S6, q6⟩ := hsp
        exact fin S6 fun s7 J7 => ⟨_, _, J7, q6⟩
      | brk =>
        obtain ⟨σ6, H6, S6, q6⟩ := hsp
        exact fin S6 fun s7 J7 => ⟨_, _, J7, q6⟩
      | cont =>
        obtain ⟨σ6, H6, S6, q6⟩ := hsp
        exact fin S6 fun s7 J7 => ⟨_, _, J7, q6⟩
      | ret u =>
        obtain ⟨v6, σ6, H6, S6, r6, q6⟩ := hsp
        exact fin S6 fun s7 J7 => ⟨_, _, _, J7, r6, q6⟩
    | false =>
      show wpAny _ X.A (handleBy (.ref a) X.env []) _ _ _
      refine wpAny_handleBy_nil ?_
      obtain ⟨k1, k2, k3, oe, vs, T, oT, ts', he, hz, hdt, h1, hrr⟩ := id f5
      unfold PySem.passOn
      refine wpAny_bind (wpAny_field he hdt h1 ?_)
      rw [if_neg (show ¬ ((Value.ref T == Value.none) = true) from by simp)]
      have away : wpAny (model X.prog X.w) X.A (setFlight (.ref a) X.env.frame) (fun _ s4 => wpAny (model X.prog X.w) X.A (throw (.ref a) : Sem Flow) (SP X pins D) X.xe s4) X.xe { s' with heap := h5 } := by
        rw [hfrm]
        refine HandSPX.setFlight_upZ f5 fun h4 hh4 up4 => wpAny_throw (tk _ _ ?_)
        exact ⟨a, B, sI, pins, σ', H', cls, d, rfl, J, inB, ((up.trans up3).trans up5).trans up4, .inr (.inr (by rw [hstk]; exact hh4)), na, eos, gs, no rfl⟩
      first
        | exact wpAny_bind (wpAny_pure (wpAny_bind away))
        | exact wpAny_bind away
  · cases fl with
    | next =>
      obtain ⟨σ', H', J', q⟩ := hsp
      exact wpAny_execs_nil ⟨σ', H', J'.ofTry okX, q⟩
    | brk =>
      obtain ⟨σ', H', J', q⟩ := hsp
      exact ⟨σ', H', J'.ofTry okX, q⟩
    | cont =>
      obtain ⟨σ', H', J', q⟩ := hsp
      exact ⟨σ', H', J'.ofTry okX, q⟩
    | ret u =>
      obtain ⟨v, σ', H', J', r, q⟩ := hsp
      exact ⟨v, σ', H', J'.ofTry okX, r, q⟩
end
theorem exmAny6 {K : PySem.W.Frag} {cls c1 c2 c3 c4 c5 c6 : Value} {b1 b2 b3 b4 b5 b6 : Bool} (h1 : PySem.W.exmOne K cls c1 = some b1) (h2 : PySem.W.exmOne K cls c2 = some b2) (h3 : PySem.W.exmOne K cls c3 = some b3) (h4 : PySem.W.exmOne K cls c4 = some b4) (h5 : PySem.W.exmOne K cls c5 = some b5) (h6 : PySem.W.exmOne K cls c6 = some b6) :
    PySem.W.exmAny K cls [c1, c2, c3, c4, c5, c6] = some (b1 || (b2 || (b3 || (b4 || (b5 || (b6 || false)))))) := by
  simp only [PySem.W.exmAny, h1, h2, h3, h4, h5, h6]
end Np

set_option Elab.async false
set_option linter.all false
set_option maxRecDepth 100000
set_option maxHeartbeats 4000000
/-! refusals that keep nothing: C('m') of a class without an own __init__, C() of one whose __init__ tells the base alone -/
namespace Np
open PySem PySem.Spec PyProof.Rows L2
abbrev veBm : List Value := [.type "ValueError", .type "Exception", .type "BaseException", .type "object"]
structure OexN (K : PySem.W.Frag) (C : Addr) : Prop where
  xin : PySem.W.excIn K C veBm "ValueError.__new__" = true
  kC : PySem.W.keepIn K (.ref C) = true
  exC : PySem.W.subIn K (.ref C) (.type "BaseException") = some true
  tyC : PySem.W.typeIn K (.ref C) = some (.type "type")
def spInit0 (C : Addr) : Sp := fun vs H Q _ => ∃ a : Addr, vs = [.ref a] ∧ H a = some (exo a C none) ∧ Q .non H
section
variable {X : Cx} {p pos : Pos} {b : Bas}
theorem bare_end {pins : List (Addr × Obj)} {σ : L2.St} {H1 : Hp} {Q : XK} {hp hp2 h2 : Heap} {g1 g2 : Array GenState} {d1 d2 : Drawn} {t1 t2 : Nat} {os1 os2 : OsState} {a C : Addr} (T : Raises X (.ref C)) (I1 : L2.Inv X pins σ H1 ⟨hp, g1, d1, t1, os1⟩)
    (ha : hp.objs.size ≤ a) (k : ∀ b o, hp.get? b = some o → hp2.get? b = some o) (un : Un (frs X.stack) [] (upd H1 a (exo a C none)) (upd H1 a (exo a C none)) hp2 h2) (hok : HOk X.prog X.w (upd H1 a (exo a C none)) h2) (ho : os2 = os1) (hb : AllBare g2)
    (q : Q (.ref C) none H1) : MkP X pins σ Q (.ref a) ⟨h2, g2, d2, t2, os2⟩ := by
  have hn : H1 a = none := I1.hok.fresh ha
  obtain ⟨t0, hoe⟩ := exo_at hok (upd_same (H := H1) (a := a) (o := exo a C none))
  obtain ⟨Z, z1, z2⟩ := restrict h2 fun b => decide (b ≠ a)
  have zk : ∀ b, b ≠ a → Z.get? b = h2.get? b := fun b hb => z1 b (decide_eq_true hb)
  have ze : Z.get? a = none := z2 a (by simp)
  have old : ∀ {b : Addr} {o : Obj}, hp.get? b = some o → b ≠ a := fun {b o} e => Nat.ne_of_lt (Nat.lt_of_lt_of_le (Heap.lt_size e) ha)
  have up : ∀ {b : Addr}, b ≠ a → H1 b = none → upd H1 a (exo a C none) b = none := fun {b} hb n => (upd_ne hb).trans n
  have ub : ∀ {b : Addr} {o : HO}, H1 b = some o → upd H1 a (exo a C none) b = some o := fun {b o} e => (upd_ne (ne_of_none e hn)).trans e
  have U : Un (frs X.stack) [] H1 H1 hp Z := {
    keep := fun b o e n hf hx => (zk b (old e)).trans (un.keep b o (k b o e) (up (old e) n) hf hx)
    slot := fun b o e n hf hx => by rw [zk b (old e)]; exact un.slot b o (k b o e) (up (old e) n) hf hx
    free := fun b o e n hx => n
    there := fun b o e hx => by rw [zk b (old e)]; exact un.there b o (k b o e) hx
    tups := fun b xs e => e
    frzs := fun b o v e => e
    tbls := fun b ps e => ⟨#[], by rw [e]; simp⟩ }
  have hok3 : HOk X.prog X.w H1 Z := fun b o e => by
    have hba : b ≠ a := ne_of_none e hn
    refine (hok b o (ub e)).stay (fun c v hc y => ?_) (fun c hc => ?_) (fun c xs hc => ?_)
    · have hca : c ≠ a := by
        rcases hc with hc | hc
        · rw [hc]; exact hba
        · exact at_ne upd_same hc exo_own
      rw [zk c hca]
      exact y
    · have hca : c ≠ a := at_ne upd_same hc exo_own
      rw [upd_ne hca] at hc
      exact hc
    · have hca : c ≠ a := at_ne upd_same hc exo_tup
      rw [upd_ne hca] at hc
      exact hc
  have J : L2.Inv X pins σ H1 ⟨Z, g2, d2, t2, os2⟩ := I1.call' (ch := []) ho U hok3 hb (fun b z => absurd z (by simp))
  refine ⟨a, _, _, ⟨Z, g2, d2, t2, os2⟩, _, .ref C, none, rfl, J, fun c o e => ?_, ze, hoe, ⟨rfl, rfl⟩, rfl, rfl, hn, rfl, hb, T, q⟩
  by_cases hca : c = a
  · rw [hca, ze] at e
    cases e
  · exact (zk c hca).symm.trans e
theorem pmk_bare {x : Str} {C fI : Addr} {k : Nat} {fd : FuncData} {ps : List Str} (T : OexO b X.K C) (iC : PySem.W.findIn X.K (.ref C) "__init__" = some (some (.ref fI))) (tI : PySem.W.typeIn X.K (.ref fI) = some (.type "function"))
    (F1 : FnOk X.prog X.w X.K X.mg X.base CX0 k fI fd ps (spInit0 C)) (hr : Room (k + 1) X.A) (hb : Binds X.K fd ps []) (hg : Gl X x) (hm : X.mg x = some (.ref C)) (hdb : (x == ("__debug__" : Str)) = false := by decide) :
    PMk X (.Call (.Name x p) [] [] pos) (fun _ H Q => Q (.ref C) none H) := by
  intro pins s σ H Q I h
  obtain ⟨nm, q, N, bs, bm, sn, sub, ab, col, dd, k0, k1, k2, k3, k5, hC, hbm⟩ := T.cls
  refine wpAny_Call_Name_kw (ld_glob I hg hm ?_ hdb)
  refine PySem.W.callWith_K0 I.kIn T.kC ?_
  show wpAny _ _ (call (.ref C) []) _ _ _
  obtain ⟨hp, g, dr, tk, os⟩ := s
  obtain ⟨n0, hn0⟩ : ∃ n0, n0 = hp.objs.size := ⟨_, rfl⟩
  have hsz : hp.objs.size ≤ n0 + 1 := by omega
  subst hn0
  have kk : ∀ b o, hp.get? b = some o → ((hp.push (PySem.W.kdv_tup [])).push (PySem.HandSPX.excO C hp.objs.size)).get? b = some o := fun b o e => Heap.get?_push_of_some _ (Heap.get?_push_of_some _ e)
  have hget : ((hp.push (PySem.W.kdv_tup [])).push (PySem.HandSPX.excO C hp.objs.size)).get? (hp.objs.size + 1) = some (PySem.HandSPX.excO C hp.objs.size) := by heap_get
  have I2 := I.laid (t' := tk) (a := hp.objs.size + 1) (o := exo (hp.objs.size + 1) C none) (h' := (hp.push (PySem.W.kdv_tup [])).push (PySem.HandSPX.excO C hp.objs.size)) kk hsz (exo_ok hget)
  have r2 : Vals [V.ref (hp.objs.size + 1)] [Value.ref (hp.objs.size + 1)] := .cons rfl .nil
  have hq : spInit0 C [.ref (hp.objs.size + 1)] (upd H (hp.objs.size + 1) (exo (hp.objs.size + 1) C none)) (fun v H2 => v = .non ∧ H2 = upd H (hp.objs.size + 1) (exo (hp.objs.size + 1) C none)) (fun _ _ _ => False) := ⟨_, rfl, upd_same, rfl, rfl⟩
  have hl : ([Value.ref (hp.objs.size + 1)] : List Value).length = ps.length := (r2.length.symm.trans (F1.len _ _ _ _ hq))
  refine wpAny_call (kx_call (T.fb.1.up hbm) (I.kIn _ _ hC) (PySem.W.looks_findIn I.kIn iC) (fun self => PySem.W.bind_fn I.kIn self tI) (by rw [sizeLine_eq]; simp)
    (codeAny_mono (F1.run _ X.stack _ _ ⟨[Value.ref (hp.objs.size + 1)], []⟩ [Value.ref (hp.objs.size + 1)] _ _ (fun _ _ _ => False) (hr.make C [] []) (I2.env0.make C [] []) (by simpa using hb _ [Value.ref (hp.objs.size + 1)] I2.kIn (by simpa using hl)) r2 hq) fun r s' hq' => ?_))
  cases r with
  | error er => exact hq'.elim
  | ok fl =>
    cases fl with
    | ret u =>
      obtain ⟨v, H2, os2, bare2, un2, hok2, rv, ev, eH⟩ := hq'
      subst ev
      subst eH
      obtain ⟨h2, g2, d2, t2, os'⟩ := s'
      exact ⟨rv, bare_end (raises_own T.exC T.tyC) I hsz kk un2 hok2 os2 bare2 h⟩
    | next => exact False.elim hq'
    | brk => exact False.elim hq'
    | cont => exact False.elim hq'
end
def RaiseC0 (P : Program) (w : World) (K : PySem.W.Frag) (mg : Str → Option Value) (base : Heap) (C : Addr) (ps : List Str) : Prop := ∃ (fI : Addr) (fd : FuncData), PySem.W.findIn K (.ref C) "__init__" = some (some (.ref fI)) ∧ PySem.W.typeIn K (.ref fI) = some (.type "function") ∧
  FnOk P w K mg base CX0 1 fI fd ps (spInit0 C) ∧ Binds K fd ps []
section
variable {W : Wp} {Wx : L2.St → XK}
def dRaise0 (cls : Str) : DS := fun ρ τ => .ok (.xc ⟨cls, []⟩ ρ) τ
theorem ds_raise0 {cls : Str} {C : Addr} (hC : W.cm cls = C) : DnS W Wx (fun _ σ H => Wx σ (.ref C) none H) (dRaise0 cls) := fun tp0 G0 H0 tp G H σ ρ τ D E P => by
  subst hC
  exact P none tp G H σ (Same.refl _) E ⟨[], rfl, .nil⟩
end
end Np

set_option Elab.async false
set_option linter.all false
set_option maxRecDepth 100000
set_option maxHeartbeats 4000000
/-! dicts that stay: {k: v, ..}, d[k], k in d, d.get(k, x) -/
namespace Np
open PySem PySem.Spec PyProof.Rows L2
def keyD : DD → Option Key
  | .int i => some (.inl i)
  | .str x => some (.inr x)
  | _ => none
def valD (kvs : List (Key × DD)) (k : Key) : Option DD := (kvs.find? fun kv => decide (kv.1 = k)).map (·.2)
def putKD (kvs : List (Key × DD)) (k : Key) (v : DD) : List (Key × DD) :=
  if (kvs.any fun kv => decide (kv.1 = k)) = true then kvs.map (fun kv => if kv.1 = k then (kv.1, v) else kv) else kvs ++ [(k, v)]
def mergeD (kvs more : List (Key × DD)) : List (Key × DD) := more.foldl (fun acc kv => putKD acc kv.1 kv.2) kvs
def keysDD : List (DD × DD) → Option (List (Key × DD))
  | [] => some []
  | (k, v) :: r => match keyD k, keysDD r with
    | some k, some r => some ((k, v) :: r)
    | _, _ => none
section
variable {K : PySem.W.Frag} {cm : CM} {H : Hp}
theorem Rp.key {v : V} {d : DD} {k : Key} (r : Rp K cm H v d) (h : keyD d = some k) : v = kV k := by
  cases d <;> first | (cases h; done) | skip
  · cases h; exact r.int_of
  · cases h; exact r.str_of
theorem RpK.val : ∀ {xs : List (Key × V)} {ds : List (Key × DD)} (k : Key), RpK K cm H xs ds → (∃ v d, valV xs k = some v ∧ valD ds k = some d ∧ Rp K cm H v d) ∨ (valV xs k = none ∧ valD ds k = none)
  | _, _, k, .nil => .inr ⟨rfl, rfl⟩
  | (k', v) :: xs, (_, d) :: ds, k, .cons h r => by
    by_cases e : k' = k
    · refine .inl ⟨v, d, ?_, ?_, h⟩
      · unfold valV; rw [List.find?_cons_of_pos (by simpa using e)]; rfl
      · unfold valD; rw [List.find?_cons_of_pos (by simpa using e)]; rfl
    · have e1 : valV ((k', v) :: xs) k = valV xs k := by unfold valV; rw [List.find?_cons_of_neg (by simpa using e)]
      have e2 : valD ((k', d) :: ds) k = valD ds k := by unfold valD; rw [List.find?_cons_of_neg (by simpa using e)]
      rw [e1, e2]
      exact RpK.val k r
theorem RpK.any (k : Key) : ∀ {xs : List (Key × V)} {ds : List (Key × DD)}, RpK K cm H xs ds → (xs.any fun kv => decide (kv.1 = k)) = (ds.any fun kv => decide (kv.1 = k))
  | _, _, .nil => rfl
  | _, _, .cons h r => by rw [List.any_cons, List.any_cons, RpK.any k r]
theorem RpK.app : ∀ {xs xs' : List (Key × V)} {ds ds' : List (Key × DD)}, RpK K cm H xs ds → RpK K cm H xs' ds' → RpK K cm H (xs ++ xs') (ds ++ ds')
  | _, _, _, _, .nil, s => s
  | _, _, _, _, .cons h r, s => .cons h (RpK.app r s)
theorem RpK.over {k : Key} {v : V} {d : DD} (h : Rp K cm H v d) : ∀ {xs : List (Key × V)} {ds : List (Key × DD)}, RpK K cm H xs ds → RpK K cm H (xs.map fun kv => if kv.1 = k then (kv.1, v) else kv) (ds.map fun kv => if kv.1 = k then (kv.1, d) else kv)
  | _, _, .nil => .nil
  | (k', _) :: _, (_, _) :: _, .cons h' r => by
    rw [List.map_cons, List.map_cons]
    by_cases e : k' = k
    · rw [if_pos e, if_pos e]; exact .cons h (RpK.over h r)
    · rw [if_neg e, if_neg e]; exact .cons h' (RpK.over h r)
theorem RpK.put {xs : List (Key × V)} {ds : List (Key × DD)} {k : Key} {v : V} {d : DD} (r : RpK K cm H xs ds) (h : Rp K cm H v d) : RpK K cm H (putK xs k v) (putKD ds k d) := by
  unfold putK putKD
  rw [r.any k]
  split
  · exact r.over h
  · exact r.app (.cons h .nil)
theorem RpK.merge : ∀ {ys : List (Key × V)} {es : List (Key × DD)} {xs : List (Key × V)} {ds : List (Key × DD)}, RpK K cm H ys es → RpK K cm H xs ds → RpK K cm H (mergeK xs ys) (mergeD ds es)
  | _, _, _, _, .nil, s => s
  | _, _, _, _, .cons (k := k) h r, s => by
    have q := RpK.merge r (s.put (k := k) h)
    exact q
theorem RpK.len : ∀ {xs : List (Key × V)} {ds : List (Key × DD)}, RpK K cm H xs ds → xs.length = ds.length
  | _, _, .nil => rfl
  | _, _, .cons _ r => congrArg Nat.succ (RpK.len r)
end
section
variable {W : Wp} {Wx : L2.St → XK} {tp : Option Addr} {G H G2 H2 : Hp} {σ : L2.St} {ρ : PEnv} {τ τ2 : TS'} {p : Addr} {o o1 : HO}
theorem Ext.fill (g : Same G H) (n : H p = none) (e : Ext tp G (upd H p o1) G2 H2) : Ext tp G H (upd G2 p o) (upd H2 p o) := by
  refine ⟨fun b v hb => ?_, fun b v nt hb => ?_, fun b nt hb hg => ?_⟩
  · have hne : b ≠ p := ne_of_none (g _ _ hb) n
    rw [upd_ne hne]
    exact e.g _ _ hb
  · have hne : b ≠ p := ne_of_none hb n
    rw [upd_ne hne]
    exact e.h b v nt (by rw [upd_ne hne]; exact hb)
  · have hne : b ≠ p := fun z => hb (by rw [z]; exact n)
    rw [upd_ne hne]
    exact e.f b nt (by rw [upd_ne hne]; exact hb) hg
theorem EnvV.fill (E : EnvV W tp G H σ ρ τ) (n : H p = none) (e : Ext tp G (upd H p o1) G2 H2) (E2 : EnvV W tp G2 H2 σ ρ τ2) (n2 : G2 p = none) : EnvV W tp (upd G2 p o) (upd H2 p o) σ ρ τ2 := by
  refine E.ext (Ext.fill E.g n e) (fun b v hb => ?_) ?_
  · by_cases hbp : b = p
    · subst hbp; rw [upd_same] at hb ⊢; exact hb
    · rw [upd_ne hbp] at hb ⊢; exact E2.g _ _ hb
  · have t1 := E.t
    have t2 := E2.t
    cases tp with
    | none => cases τ2 with
      | none => trivial
      | some _ => exact t2.elim
    | some a =>
      cases τ2 with
      | none => exact t2.elim
      | some q =>
        have ha : a ≠ p := by
          cases τ with
          | none => exact t1.elim
          | some τ0 =>
            obtain ⟨_, c, _, h⟩ := (show TapeR W G H a τ0 from t1)
            exact ne_of_none h n
        obtain ⟨g0, c, hc, hh⟩ := (show TapeR W G2 H2 a q from t2)
        exact ⟨by rw [upd_ne ha]; exact g0, c, by rw [upd_ne (fun z => by rw [z, n2] at hc; cases hc)]; exact hc, by rw [upd_ne ha]; exact hh⟩
def dPairs : List (DE × DE) → PEnv → TS' → R (List (DD × DD))
  | [], _, τ => .ok [] τ
  | (a, b) :: r, ρ, τ => (a ρ τ).bind fun x τ1 => (b ρ τ1).bind fun y τ2 => (dPairs r ρ τ2).bind fun ps τ3 => .ok ((x, y) :: ps) τ3
def dDisp (l : List (DE × DE)) : DE := fun ρ τ => (dPairs l ρ τ).bind fun ps τ1 => match keysDD ps with
  | some kvs => if kvs.length ≤ 15 then .ok (.dic (mergeD [] kvs)) τ1 else .no
  | none => .no
inductive DnPr (W : Wp) (Wx : L2.St → XK) : List (TE × TE) → List (DE × DE) → Prop
  | nil : DnPr W Wx [] []
  | cons {ta tb : TE} {δa δb : DE} {ts : List (TE × TE)} {ds : List (DE × DE)} : Dn W Wx ta δa → Dn W Wx tb δb → DnPr W Wx ts ds → DnPr W Wx ((ta, tb) :: ts) ((δa, δb) :: ds)
abbrev rPr (W : Wp) : Option Addr → Hp → List (V × V) → List (DD × DD) → Prop := fun _ G => Paired fun p q => Rp W.K W.cm G p.1 q.1 ∧ Rp W.K W.cm G p.2 q.2
theorem pairs_run {ts : List (TE × TE)} {ds : List (DE × DE)} (h : DnPr W Wx ts ds) : ∀ tp G H σ ρ τ (Q : List (V × V) → Hp → Prop), EnvV W tp G H σ ρ τ → Pg W Wx (rPr W) tp σ ρ G H Q (dPairs ds ρ τ) → tPairs ts σ H Q := by
  induction h with
  | nil => exact fun tp G H σ ρ τ Q E P => P [] G H Ext.refl E .nil
  | cons ha hb _ ih =>
    intro tp G H σ ρ τ Q E P
    refine ha _ _ _ _ _ _ _ E (P.bind fun a τ1 x G1 H1 e1 E1 r1 P1 => hb _ _ _ _ _ _ _ E1 (P1.bind fun b τ2 y G2 H2 e2 E2 r2 P2 => ih _ _ _ _ _ _ _ E2 (P2.bind fun ps τ3 vs G3 H3 e3 E3 r3 P3 => ?_)))
    exact P3 ((x, y) :: vs) G3 H3 Ext.refl E3 (.cons ⟨Rp.mono e3.g (Rp.mono e2.g r1), Rp.mono e3.g r2⟩ r3)
theorem keys_vs : ∀ {ps : List (DD × DD)} {kvs : List (Key × DD)} {vs : List (V × V)}, keysDD ps = some kvs → (Paired fun p q => Rp W.K W.cm G p.1 q.1 ∧ Rp W.K W.cm G p.2 q.2) vs ps →
    ∃ ks : List (Key × V), vs = ks.map (fun kv => (kV kv.1, kv.2)) ∧ RpK W.K W.cm G ks kvs
  | [], _, _, h, .nil => by cases h; exact ⟨[], rfl, .nil⟩
  | (k, v) :: ps, _, _, h, .cons (a := x) q r => by
    unfold keysDD at h
    split at h
    · rename_i k' r' hk hr
      cases h
      obtain ⟨ks, e1, e2⟩ := keys_vs hr r
      refine ⟨(k', x.2) :: ks, ?_, .cons q.2 e2⟩
      rw [List.map_cons, ← e1, ← q.1.key hk]
    · cases h
theorem dn_disp {ts : List (TE × TE)} {ds : List (DE × DE)} (h : DnPr W Wx ts ds) : Dn W Wx (tDisp ts) (dDisp ds) := fun tp G H σ ρ τ Q E P p n => by
  have Ep : EnvV W tp G (upd H p (.dK [])) σ ρ τ := E.newH n
  refine pairs_run h _ _ _ _ _ _ _ Ep ?_
  revert P
  unfold dDisp
  generalize dPairs ds ρ τ = r
  cases r with
  | no => exact fun P => P
  | ex x τ1 =>
    intro P d G2 H2 e2 E2 hx
    refine P d G2 H2 ⟨e2.g, fun b v nt hb => e2.h b v nt (by rw [upd_ne (ne_of_none hb n)]; exact hb), fun b nt hb hg => e2.f b nt (by rw [upd_ne (fun z => hb (by rw [z]; exact n))]; exact hb) hg⟩ E2 hx
  | ok ps τ1 =>
    intro P vs G2 H2 e2 E2 rv
    simp only [R.bind_ok] at P
    split at P
    · rename_i kvs hk
      split at P
      · rename_i hl
        have pt : tp ≠ some p := fun z => by
          have t1 := E.t
          rw [z] at t1
          cases τ with
          | none => exact t1.elim
          | some τ0 =>
            obtain ⟨_, c, _, h⟩ := (show TapeR W G H p τ0 from t1)
            rw [n] at h
            cases h
        have hp2 : H2 p = some (.dK []) := e2.h p _ pt upd_same
        have gp : G p = none := E.g.free n
        have gp2 : G2 p = none := e2.f p pt (by rw [upd_same]; simp) gp
        obtain ⟨ks, ev, rk⟩ := keys_vs hk rv
        refine ⟨hp2, ks, ev, by rw [rk.len]; exact hl, ?_⟩
        refine P _ (upd G2 p (.dK (mergeK [] ks))) _ (Ext.fill E.g n e2) (E.fill n e2 E2 gp2) (.dic upd_same ?_)
        exact ((RpK.merge rk .nil).mono (same_new gp2))
      · exact P.elim
    · exact P.elim
end
/-! reading -/
section
variable {W : Wp} {Wx : L2.St → XK} {td ty tx : TE} {δd δy δx : DE}
def dDGet (d y : DE) : DE := fun ρ τ => (d ρ τ).bind fun x τ1 => (y ρ τ1).bind fun k τ2 => match x, keyD k with
  | .dic kvs, some k => R.of τ2 (valD kvs k)
  | _, _ => .no
theorem dn_dget (hd : Dn W Wx td δd) (hy : Dn W Wx ty δy) : Dn W Wx (tDGet td ty) (dDGet δd δy) := fun tp G H σ ρ τ Q E P =>
  hd _ _ _ _ _ _ _ E (P.bind fun a τ1 x G1 H1 e1 E1 r1 P1 => hy _ _ _ _ _ _ _ E1 (P1.bind fun b τ2 y G2 H2 e2 E2 r2 P2 => by
    split at P2
    · rename_i kvs k hk
      obtain ⟨v, hv, P3⟩ := P2.of
      cases r1 with | dic h rk =>
      rename_i ad xs
      have h2 := E2.g _ _ (e2.g _ _ h)
      rcases (rk.mono e2.g).val k with ⟨u, d, q1, q2, q3⟩ | ⟨_, q2⟩
      · rw [hv] at q2
        cases q2
        refine ⟨ad, u, rfl, ?_, P3 _ G2 H2 Ext.refl E2 q3⟩
        rw [r2.key hk, ← q1]
        exact DGet.k h2
      · rw [hv] at q2
        cases q2
    · exact P2.elim))
def dDIn (neg : Bool) (y d : DE) : DE := fun ρ τ => (y ρ τ).bind fun k τ1 => (d ρ τ1).bind fun x τ2 => match x, keyD k with
  | .dic kvs, some k => .ok (.bl (if neg then !(valD kvs k).isSome else (valD kvs k).isSome)) τ2
  | _, _ => .no
theorem din_run {neg : Bool} (hy : Dn W Wx ty δy) (hd : Dn W Wx td δd) : Dn W Wx (fun σ H Q => ty σ H fun y H1 => td σ H1 fun x H2 => ∃ a o, x = .ref a ∧ DGet H2 a y o ∧ Q (.bl (if neg then !o.isSome else o.isSome)) H2) (dDIn neg δy δd) := fun tp G H σ ρ τ Q E P =>
  hy _ _ _ _ _ _ _ E (P.bind fun a τ1 x G1 H1 e1 E1 r1 P1 => hd _ _ _ _ _ _ _ E1 (P1.bind fun b τ2 y G2 H2 e2 E2 r2 P2 => by
    split at P2
    · rename_i kvs k hk
      cases r2 with | dic h rk =>
      rename_i ad xs
      have h2 := E2.g _ _ h
      refine ⟨ad, valV xs k, rfl, by rw [r1.key hk]; exact DGet.k h2, ?_⟩
      have : (valV xs k).isSome = (valD kvs k).isSome := by
        rcases rk.val k with ⟨u, d, q1, q2, _⟩ | ⟨q1, q2⟩ <;> rw [q1, q2] <;> rfl
      rw [this]
      exact P2 _ G2 H2 Ext.refl E2 (.bl _)
    · exact P2.elim))
theorem dn_din (hy : Dn W Wx ty δy) (hd : Dn W Wx td δd) : Dn W Wx (tDIn ty td) (dDIn false δy δd) := din_run (neg := false) hy hd
theorem dn_dnotin (hy : Dn W Wx ty δy) (hd : Dn W Wx td δd) : Dn W Wx (tDNotIn ty td) (dDIn true δy δd) := din_run (neg := true) hy hd
def dDGet2 (d y x : DE) : DE := fun ρ τ => (d ρ τ).bind fun c τ1 => match c with
  | .dic kvs => (y ρ τ1).bind fun k τ2 => (x ρ τ2).bind fun z τ3 => match keyD k with
    | some k => .ok ((valD kvs k).getD z) τ3
    | none => .no
  | _ => .no
theorem dn_dget2 (hd : Dn W Wx td δd) (hy : Dn W Wx ty δy) (hx : Dn W Wx tx δx) : Dn W Wx (tDGet2 td ty tx) (dDGet2 δd δy δx) := fun tp G H σ ρ τ Q E P =>
  hd _ _ _ _ _ _ _ E (P.bind fun a τ1 x G1 H1 e1 E1 r1 P1 => by
    cases a with
    | dic kvs =>
      cases r1 with | dic h rk =>
      rename_i ad xs
      refine ⟨ad, rfl, .inl ⟨xs, .inl (E1.g _ _ h)⟩, hy _ _ _ _ _ _ _ E1 (P1.bind fun b τ2 y G2 H2 e2 E2 r2 P2 => hx _ _ _ _ _ _ _ E2 (P2.bind fun z τ3 u G3 H3 e3 E3 r3 P3 => ?_))⟩
      split at P3
      · rename_i k hk
        have h3 := E3.g _ _ (e3.g _ _ (e2.g _ _ h))
        refine ⟨valV xs k, by rw [r2.key hk]; exact DGet.k h3, ?_⟩
        rcases (rk.mono (e2.g.trans e3.g)).val k with ⟨v, d, q1, q2, q3⟩ | ⟨q1, q2⟩
        · rw [q1]; rw [q2] at P3; exact P3 _ G3 H3 Ext.refl E3 q3
        · rw [q1]; rw [q2] at P3; exact P3 _ G3 H3 Ext.refl E3 r3
      · exact P3.elim
    | _ => exact P1.elim)
end
end Np

set_option Elab.async false
set_option linter.all false
set_option maxRecDepth 100000
set_option maxHeartbeats 4000000
/-! tables of many classes; str(kept) of several classes -/
namespace Np
open PySem PySem.Spec PyProof.Rows L2
def tbl : List Str → List Bool → Str → Option Bool
  | n :: ns, v :: vs, s => if s = n then some v else tbl ns vs s
  | _, _, _ => none
/-- names, the addresses of their classes -/
abbrev ExcL (K : PySem.W.Frag) (cm : CM) : List Str → List Addr → Prop := Paired fun n a => cm n = a ∧ ExcC K a
def kitB (K : PySem.W.Frag) (u : Value) : List Addr → List Bool → Bool
  | a :: as, v :: vs => (PySem.W.kitOne K (.ref a) u == some v) && kitB K u as vs
  | [], [] => true
  | _, _ => false
def exmB (K : PySem.W.Frag) (us : List Value) : List Addr → List Bool → Bool
  | a :: as, v :: vs => (PySem.W.exmAny K (.ref a) us == some v) && exmB K us as vs
  | [], [] => true
  | _, _ => false
section
variable {K : PySem.W.Frag} {cm : CM} {u : Value} {us : List Value}
theorem tbl_kit : ∀ {ns : List Str} {as : List Addr} {vs : List Bool}, ExcL K cm ns as → kitB K u as vs = true → ∀ s b, tbl ns vs s = some b → ExcC K (cm s) ∧ PySem.W.kitOne K (.ref (cm s)) u = some b
  | [], _, _, _, _, s, b, h => by cases h
  | n :: ns, a :: as, v :: vs, .cons q r, hk, s, b, h => by
    unfold kitB at hk
    rw [Bool.and_eq_true, beq_iff_eq] at hk
    unfold tbl at h
    split at h
    · rename_i e
      cases h
      rw [e, q.1]
      exact ⟨q.2, hk.1⟩
    · exact tbl_kit r hk.2 s b h
  | n :: ns, a :: as, [], _, _, s, b, h => by cases h
theorem tbl_exm : ∀ {ns : List Str} {as : List Addr} {vs : List Bool}, ExcL K cm ns as → exmB K us as vs = true → ∀ s b, tbl ns vs s = some b → PySem.W.exmAny K (.ref (cm s)) us = some b
  | [], _, _, _, _, s, b, h => by cases h
  | n :: ns, a :: as, v :: vs, .cons q r, hk, s, b, h => by
    unfold exmB at hk
    rw [Bool.and_eq_true, beq_iff_eq] at hk
    unfold tbl at h
    split at h
    · rename_i e
      cases h
      rw [e, q.1]
      exact hk.1
    · exact tbl_exm r hk.2 s b h
  | n :: ns, a :: as, [], _, _, s, b, h => by cases h
end
theorem cr_or {X : Cx} {f : Value} {r r' : List V → Hp → VK → Prop} (h : CallR X f r) (h' : CallR X f r') : CallR X f (fun xs H Q => r xs H Q ∨ r' xs H Q) := by
  intro pins s σ H xs us Q I rv q
  rcases q with q | q
  · exact h pins s σ H xs us Q I rv q
  · exact h' pins s σ H xs us Q I rv q
section
variable {W : Wp} {Wx : L2.St → XK} {ta : TA} {δa : DA}
def hStrX (F : Fn) (C : Str) (fs : List (Str × DD)) (τ1 : TS') : R DD := (F [.fr (.exc C fs)] τ1).nox.bind fun d τ2 => match d with
  | .str z => .ok (.str z) τ2
  | _ => .no
theorem strX_core {tp : Option Addr} {G1 H1 : Hp} {σ : L2.St} {ρ : PEnv} {τ1 : TS'} {Q : V → Hp → Prop} {C : Str} {fs : List (Str × DD)} {v : V} {D : Addr} {F : Fn} (hD : W.cm C = D) (E1 : EnvV W tp G1 H1 σ ρ τ1) (r : Rp W.K W.cm G1 v (.exc C fs))
    (P1 : Pg W Wx (rE W) tp σ ρ G1 H1 Q (hStrX F C fs τ1)) : rStrX D (spP W 1 F) [v] H1 Q := by
  subst hD
  obtain ⟨p, d, xs, rfl, kp, nz, rf⟩ := r.kept
  refine ⟨p, _, xs, rfl, kp.mono E1.g, rfl, tp, G1, _, τ1, E1.g, .cons (show ArgR W tp G1 _ (.fr _) from r) .nil, E1.t, ?_⟩
  revert P1
  unfold hStrX
  cases F [.fr (.exc C fs)] τ1 with
  | ok d τ' =>
    intro P1 v G' H' e s t r
    cases d <;> first | exact P1.elim | skip
    rename_i z
    simp only [R.nox_ok, R.bind_ok] at P1
    exact ⟨z, r.str_of, P1 _ G' H' e (E1.ext e s t) (.str z)⟩
  | ex x τ' => exact fun P1 => P1.elim
  | no => exact fun P1 => P1.elim
def dStrX3 (c1 : Str) (F1 : Fn) (c2 : Str) (F2 : Fn) (c3 : Str) (F3 : Fn) (a : DA) : DE := fun ρ τ => (a ρ τ).bind fun xs τ1 => match xs with
  | [.exc C fs] => if C = c1 then hStrX F1 C fs τ1 else if C = c2 then hStrX F2 C fs τ1 else if C = c3 then hStrX F3 C fs τ1 else .no
  | _ => .no
theorem dn_strX3 {c1 c2 c3 : Str} {C1 C2 C3 : Addr} {F1 F2 F3 : Fn} (h1 : W.cm c1 = C1) (h2 : W.cm c2 = C2) (h3 : W.cm c3 = C3) (ha : DnA W Wx ta δa) :
    Dn W Wx (tCB (fun xs H Q => rStrX C1 (spP W 1 F1) xs H Q ∨ rStrX C2 (spP W 1 F2) xs H Q ∨ rStrX C3 (spP W 1 F3) xs H Q) ta) (dStrX3 c1 F1 c2 F2 c3 F3 δa) := fun tp G H σ ρ τ Q E P =>
  ha _ _ _ _ _ _ _ E (P.bind fun as τ1 vs G1 H1 e1 E1 r1 P1 => by
    split at P1
    · rename_i C fs
      cases r1 with | cons r rs =>
      cases rs
      by_cases q1 : C = c1
      · rw [if_pos q1] at P1; subst q1; exact .inl (strX_core h1 E1 r P1)
      · rw [if_neg q1] at P1
        by_cases q2 : C = c2
        · rw [if_pos q2] at P1; subst q2; exact .inr (.inl (strX_core h2 E1 r P1))
        · rw [if_neg q2] at P1
          by_cases q3 : C = c3
          · rw [if_pos q3] at P1; subst q3; exact .inr (.inr (strX_core h3 E1 r P1))
          · rw [if_neg q3] at P1; exact P1.elim
    · exact P1.elim)
end
/-! str(x) of a whole number, a text or None -/
def rStrA : List V → Hp → VK → Prop := fun xs H Q => (∃ i, xs = [.int i] ∧ i.natAbs.log2 < 1920 ∧ Q (.str (toString i)) H) ∨ (∃ a, xs = [.str a] ∧ Q (.str a) H) ∨ (xs = [.non] ∧ Q (.str "None") H)
theorem cr_strA {X : Cx} : CallR X (.type "str") rStrA := cr_or call_str_int (cr_or SkE.call_str_str (by
  intro pins s σ H xs us Q I r h
  obtain ⟨rfl, q⟩ := h
  obtain ⟨u, rfl, ru⟩ := vals1 r
  cases ru
  exact PySem.P.str_of_none ⟨.str "None", H, I.tok _, ⟨_, rfl⟩, q⟩))
def gStrA : DD → Option DD
  | .int i => if i.natAbs.log2 < 1920 then some (.str (toString i)) else none
  | .str x => some (.str x)
  | .non => some (.str "None")
  | _ => none
theorem cd_strA {W : Wp} : CallD W rStrA (c1 gStrA) := by
  intro G H x a c Q s ra e k
  obtain ⟨d, rfl, e⟩ := c1_eq e
  cases ra with | cons r rs =>
  cases rs
  cases d <;> first | (cases e; done) | skip
  · cases e; cases r; exact .inr (.inr ⟨rfl, k _ G H ext_n s (.str _)⟩)
  · rename_i i e
    have e : (if i.natAbs.log2 < 1920 then some (DD.str (toString i)) else none) = some c := e
    split at e
    · rename_i hl
      cases e
      exact .inl ⟨i, by rw [r.int_of], hl, k _ G H ext_n s (.str _)⟩
    · cases e
  · cases e; exact .inr (.inl ⟨_, by rw [r.str_of], k _ G H ext_n s (.str _)⟩)
end Np

set_option Elab.async false
set_option linter.all false
set_option maxRecDepth 100000
set_option maxHeartbeats 4000000
/-! a dict of the module's top: D.get(k, x), D[k], k in D -/
namespace Np
open PySem PySem.Spec PyProof.Rows L2
structure GDict (P : Program) (w : World) (K : PySem.W.Frag) (a : Addr) (kvs : List (Key × V)) : Prop where
  low : (a == sysModules) = false
  ht : ∀ h, K.In h → ∃ vs, KV kvs vs ∧ h.DictOf (mixKind P w) a vs
/-- entries and what they stand for -/
def Ents (w : World) : List DictEntry → List (Key × V) → Prop := Paired fun e p => e.hash = keyH w p.1 ∧ keyIs p.1 e.key = true ∧ RelV p.2 e.val
theorem ents_kv {w : World} : ∀ {es : List DictEntry} {kvs : List (Key × V)}, Ents w es kvs → KV kvs (es.zip kvs |>.map fun z => (z.2.1, z.1.val))
  | _, _, .nil => .nil
  | _, _, .cons h r => .cons ⟨rfl, h.2.2⟩ (ents_kv r)
theorem ents_keys {w : World} {P : Program} : ∀ {es : List DictEntry} {kvs : List (Key × V)}, Ents w es kvs → ∀ e ∈ es, ∃ k, (mixKind P w).is k e.key = true ∧ e.hash = (mixKind P w).hash k
  | _, _, .nil, e, he => by cases he
  | _, _, .cons h r, e, he => by
    rcases List.mem_cons.mp he with rfl | he
    · exact ⟨_, h.2.1, h.1⟩
    · exact ents_keys r e he
theorem ents_pairs {w : World} {P : Program} : ∀ {es : List DictEntry} {kvs : List (Key × V)}, Ents w es kvs → Pairs (mixKind P w) es (es.zip kvs |>.map fun z => (z.2.1, z.1.val))
  | _, _, .nil => .nil
  | _, _, .cons h r => .cons h.2.1 rfl (ents_pairs r)
theorem ents_fst {w : World} : ∀ {es : List DictEntry} {kvs : List (Key × V)}, Ents w es kvs → ((es.zip kvs |>.map fun z => (z.2.1, z.1.val)).map (·.1)) = kvs.map (·.1)
  | _, _, .nil => rfl
  | _, _, .cons h r => by
    have := ents_fst r
    simp only [List.zip_cons_cons, List.map_cons] at this ⊢
    rw [this]
theorem GDict.of {P : Program} {w : World} {K : PySem.W.Frag} {a : Addr} {es : Array DictEntry} {n : Nat} {kvs : List (Key × V)} (hl : K.lookup a = some ⟨.type "dict", none, .dict es n, #[]⟩) (low : (a == sysModules) = false) (h : Ents w es.toList kvs) (nd : (kvs.map (·.1)).Nodup) : GDict P w K a kvs :=
  ⟨low, fun h' hi => ⟨_, ents_kv h, ⟨_, es, n, hi _ _ hl, ⟨rfl, rfl, rfl⟩, rfl, fun e he => ents_keys h e (by simpa using he), ents_pairs h, by rw [ents_fst h]; exact nd⟩⟩⟩
section
variable {X : Cx} {x : Str} {a : Addr} {kvs : List (Key × V)} {o e f : Expr} {p pos apos cpos : Pos} {ty tx : TE}
def tKGet2 (kvs : List (Key × V)) (ty tx : TE) : TE := fun σ H Q => ty σ H fun y H1 => tx σ H1 fun z H2 => ∃ k, y = kV k ∧ Q ((valV kvs k).getD z) H2
def tKGet (kvs : List (Key × V)) (ty : TE) : TE := fun σ H Q => ty σ H fun y H1 => ∃ k v, y = kV k ∧ valV kvs k = some v ∧ Q v H1
def tKIn (neg : Bool) (kvs : List (Key × V)) (ty : TE) : TE := fun σ H Q => ty σ H fun y H1 => ∃ k, y = kV k ∧ Q (.bl (if neg then !(valV kvs k).isSome else (valV kvs k).isSome)) H1
theorem pe_kget2 (G : GDict X.prog X.w X.K a kvs) (ho : PE X o (tC (.ref a))) (he : PE X e ty) (hf : PE X f tx) (m : M2 X o "get" apos e f cpos) : PE X (.Call (.Attribute o "get" apos) [e, f] [] cpos) (tKGet2 kvs ty tx) := by
  refine ⟨fun pins s σ H Q I h => ?_⟩
  refine wpAny_Call_method m.base m.few m.line PySem.F.plainAttrs_dict PySem.F.slot_dict_get PySem.F.type_dict_get (thn (ho.run pins s σ H (fun v H' => v = .ref a ∧ H' = H) I ⟨rfl, rfl⟩) fun u s1 hh => ?_)
  obtain ⟨v, H1, I1, rv, ev, eH⟩ := hh
  subst ev
  subst eH
  obtain rfl : u = Value.ref a := rv
  obtain ⟨vs0, _, d0⟩ := G.ht _ I1.kIn
  refine ⟨d0.typeIs, fun b q => ?_, ?_⟩
  · cases q
    obtain ⟨ob, _, _, q1, q2, _⟩ := d0
    exact ⟨ob, q1, q2.2.1⟩
  rw [m.trees]
  refine Calls.callWith_builtin rfl (Calls.evalArgs_plain (Calls.spliced_cons (thn (he.run pins s1 σ H1 _ I1 h) fun iv s2 hh => ?_)))
  obtain ⟨y, H2, I2, ry, q2⟩ := hh
  refine Calls.spliced_cons (thn (hf.run pins s2 σ H2 _ I2 q2) fun fv s3 hh => Calls.spliced_nil ?_)
  obtain ⟨z, H3, I3, rz, k, ey, q3⟩ := hh
  subst ey
  obtain ⟨vs, rel, dd⟩ := G.ht _ I3.kIn
  refine call_meetsIn PySem.F.slot_dict_get dd.typeIs PySem.F.entry_dict_get (PySem.F.args_dict_get_3 _ _ _) (meets_dict_get_default (mixKind X.prog X.w) a (kV_is ry) G.low fv) ⟨_, dd.mapOf, ⟨_, H3, I3.tok _, ?_, q3⟩⟩
  exact (rel.val k).getD rz
theorem pe_kget (G : GDict X.prog X.w X.K a kvs) (ho : PE X o (tC (.ref a))) (hi : PE X e ty) (hs : NoSl e) : PE X (.Subscript o e pos) (tKGet kvs ty) := by
  refine ⟨fun pins s σ H Q I h => ?_⟩
  refine subD_of PySem.F.slot_dict_getitem.lookup hs (thn (ho.run pins s σ H (fun v H' => v = .ref a ∧ H' = H) I ⟨rfl, rfl⟩) fun u s1 hh => ?_)
  obtain ⟨v, H1, I1, rv, ev, eH⟩ := hh
  subst ev
  subst eH
  obtain rfl : u = Value.ref a := rv
  refine thn (hi.run pins s1 σ H1 _ I1 h) fun iv s2 hh => ?_
  obtain ⟨y, H2, I2, ry, k, v, ey, l, q2⟩ := hh
  subst ey
  obtain ⟨vs, rel, dd⟩ := G.ht _ I2.kIn
  obtain ⟨w', hw, rw'⟩ := RelO.some_of (v := v) (o := valueAt vs k) (by rw [← l]; exact rel.val k)
  exact ⟨dd.typeIs, wpAny_getItem_of (kV_is ry) dd.mapOf hw ⟨v, H2, I2.tok _, rw', q2⟩⟩
theorem pc_kin (G : GDict X.prog X.w X.K a kvs) (hi : PE X e ty) (ho : PE X o (tC (.ref a))) : PC X .In e o (tKIn false kvs ty) := by
  refine ⟨fun pins s σ H Q I h => ?_⟩
  refine thn (hi.run pins s σ H _ I h) fun iv s1 hh => ?_
  obtain ⟨y, H1, I1, ry, k, ey, q⟩ := hh
  subst ey
  refine thn (ho.run pins s1 σ H1 (fun v H' => v = .ref a ∧ H' = H1) I1 ⟨rfl, rfl⟩) fun u s2 hh => ?_
  obtain ⟨v, H2, I2, rv, ev, eH⟩ := hh
  subst ev
  subst eH
  obtain rfl : u = Value.ref a := rv
  obtain ⟨vs, rel, dd⟩ := G.ht _ I2.kIn
  refine wpAny_in_of (kV_is ry) G.low dd.mapOf ?_
  rw [← (rel.val k).isSome_eq]
  exact ⟨.bl _, H2, I2.tok _, rfl, q⟩
theorem pc_knotin (G : GDict X.prog X.w X.K a kvs) (hi : PE X e ty) (ho : PE X o (tC (.ref a))) : PC X .NotIn e o (tKIn true kvs ty) := by
  refine ⟨fun pins s σ H Q I h => ?_⟩
  refine thn (hi.run pins s σ H _ I h) fun iv s1 hh => ?_
  obtain ⟨y, H1, I1, ry, k, ey, q⟩ := hh
  subst ey
  refine thn (ho.run pins s1 σ H1 (fun v H' => v = .ref a ∧ H' = H1) I1 ⟨rfl, rfl⟩) fun u s2 hh => ?_
  obtain ⟨v, H2, I2, rv, ev, eH⟩ := hh
  subst ev
  subst eH
  obtain rfl : u = Value.ref a := rv
  obtain ⟨vs, rel, dd⟩ := G.ht _ I2.kIn
  refine wpAny_notIn_of (kV_is ry) G.low dd.mapOf ?_
  rw [← (rel.val k).isSome_eq]
  exact ⟨.bl _, H2, I2.tok _, rfl, q⟩
end
/-! what they answer: dicts of texts -/
def tv (kvs : List (Key × Str)) : List (Key × V) := kvs.map fun p => (p.1, .str p.2)
def tvD (kvs : List (Key × Str)) : List (Key × DD) := kvs.map fun p => (p.1, .str p.2)
theorem tv_rp {K : PySem.W.Frag} {cm : CM} {G : Hp} : ∀ kvs : List (Key × Str), RpK K cm G (tv kvs) (tvD kvs)
  | [] => .nil
  | (k, x) :: kvs => .cons (.str x) (tv_rp kvs)
section
variable {W : Wp} {Wx : L2.St → XK} {ty tx : TE} {δy δx : DE} {kvs : List (Key × Str)}
def dKGet2 (kvs : List (Key × Str)) (y x : DE) : DE := fun ρ τ => (y ρ τ).bind fun k τ2 => (x ρ τ2).bind fun z τ3 => match keyD k with
  | some k => .ok ((valD (tvD kvs) k).getD z) τ3
  | none => .no
theorem dn_kget2 (hy : Dn W Wx ty δy) (hx : Dn W Wx tx δx) : Dn W Wx (tKGet2 (tv kvs) ty tx) (dKGet2 kvs δy δx) := fun tp G H σ ρ τ Q E P =>
  hy _ _ _ _ _ _ _ E (P.bind fun b τ2 y G2 H2 e2 E2 r2 P2 => hx _ _ _ _ _ _ _ E2 (P2.bind fun z τ3 u G3 H3 e3 E3 r3 P3 => by
    split at P3
    · rename_i k hk
      refine ⟨k, r2.key hk, ?_⟩
      rcases (tv_rp (K := W.K) (cm := W.cm) (G := G3) kvs).val k with ⟨v, d, q1, q2, q3⟩ | ⟨q1, q2⟩
      · rw [q1]; rw [q2] at P3; exact P3 _ G3 H3 Ext.refl E3 q3
      · rw [q1]; rw [q2] at P3; exact P3 _ G3 H3 Ext.refl E3 r3
    · exact P3.elim))
def dKGet (kvs : List (Key × Str)) (y : DE) : DE := fun ρ τ => (y ρ τ).bind fun k τ2 => match keyD k with
  | some k => R.of τ2 (valD (tvD kvs) k)
  | none => .no
theorem dn_kget (hy : Dn W Wx ty δy) : Dn W Wx (tKGet (tv kvs) ty) (dKGet kvs δy) := fun tp G H σ ρ τ Q E P =>
  hy _ _ _ _ _ _ _ E (P.bind fun b τ2 y G2 H2 e2 E2 r2 P2 => by
    split at P2
    · rename_i k hk
      obtain ⟨v, hv, P3⟩ := P2.of
      rcases (tv_rp (K := W.K) (cm := W.cm) (G := G2) kvs).val k with ⟨u, d, q1, q2, q3⟩ | ⟨_, q2⟩
      · rw [hv] at q2
        cases q2
        exact ⟨k, u, r2.key hk, q1, P3 _ G2 H2 Ext.refl E2 q3⟩
      · rw [hv] at q2
        cases q2
    · exact P2.elim)
def dKIn (neg : Bool) (kvs : List (Key × Str)) (y : DE) : DE := fun ρ τ => (y ρ τ).bind fun k τ2 => match keyD k with
  | some k => .ok (.bl (if neg then !(valD (tvD kvs) k).isSome else (valD (tvD kvs) k).isSome)) τ2
  | none => .no
theorem dn_kin {neg : Bool} (hy : Dn W Wx ty δy) : Dn W Wx (tKIn neg (tv kvs) ty) (dKIn neg kvs δy) := fun tp G H σ ρ τ Q E P =>
  hy _ _ _ _ _ _ _ E (P.bind fun b τ2 y G2 H2 e2 E2 r2 P2 => by
    split at P2
    · rename_i k hk
      refine ⟨k, r2.key hk, ?_⟩
      have : (valV (tv kvs) k).isSome = (valD (tvD kvs) k).isSome := by
        rcases (tv_rp (K := W.K) (cm := W.cm) (G := G2) kvs).val k with ⟨u, d, q1, q2, _⟩ | ⟨q1, q2⟩ <;> rw [q1, q2] <;> rfl
      rw [this]
      exact P2 _ G2 H2 Ext.refl E2 (.bl _)
    · exact P2.elim)
end
end Np

set_option Elab.async false
set_option linter.all false
set_option maxRecDepth 100000
set_option maxHeartbeats 4000000
/-! a def with a parameter: x.replace(y, z) of written texts in it -/
namespace Np
open PySem PySem.Spec PyProof.Rows L2 CwR
section
variable {P : Program} {w : World} {K : PySem.W.Frag} {mg : Str → Option Value} {base : Heap} {x qual : Str} {st : Stmt} {f : Addr} {fd : FuncData} {N ps : List Str} {k : Nat} {sp : Sp}
theorem Fun.okR (F : Fun K x qual st f fd) (S : FnScope N ps (defScope st)) (nc : ∀ y ∈ (defScope st).names, y.2 ≠ .cell) (h1 : 1 ≤ ps.length) (len : ∀ vs H Q E, sp vs H Q E → vs.length = ps.length)
    (hb : ∀ (cdv : Value) (A : Around) (outer : List Env) (s : Shared) (H : Hp) (vs : List V) (Q : VK) (E : XK), Room k (A.deeper (envOfC qual (defScope st) s.heap.objs.size f cdv)) → sp vs H Q E →
      ∃ t, PSsT (cxOf CX0 P w K mg base N qual (defScope st) f cdv A outer s H E) (defBody st) t ∧ t { nx := fun _ H' => Q .non H', rt := Q } (start N vs) H) : FnG P w K mg base CX0 (k + 1) f fd ps sp := by
  obtain ⟨oc, od, kV, doc, pm, an, cdv, ct, osl, rfl, lk, hcd⟩ := F.ex
  exact FnG.of (fn_ofT lk hcd S nc h1 len fun A outer s H vs Q E hr hsp => hb cdv A outer s H vs Q E hr hsp)
end
def gReplC (y z : Str) : DD → Option DD
  | .str x => if x.length + (x.length + 1) * z.length ≤ 16777216 then some (.str (Txt.replace x y z)) else none
  | _ => none
section
variable {W : Wp} {Wx : L2.St → XK} {te : TE} {δ : DE} {y z : Str}
theorem dn_replC (he : Dn W Wx te δ) : Dn W Wx (tReplC te y z) (dUn (gReplC y z) δ) := fun tp G H σ ρ τ Q E P =>
  he _ _ _ _ _ _ _ E (P.bind fun a τ1 x G1 H1 e1 E1 r1 P1 => by
    obtain ⟨c, hc, P2⟩ := P1.of
    cases a <;> first | (cases hc; done) | skip
    rename_i x0
    have hc : (if x0.length + (x0.length + 1) * z.length ≤ 16777216 then some (DD.str (Txt.replace x0 y z)) else none) = some c := hc
    split at hc
    · rename_i hl
      cases hc
      exact ⟨x0, r1.str_of, hl, P2 _ G1 H1 Ext.refl E1 (.str _)⟩
    · cases hc)
end
abbrev gIsspace := m0 fun z => some (.bl (Txt.isspace z))
theorem md_isspace {W : Wp} : MtD W (fun x xs H Q => ∃ a, x = .str a ∧ xs = [] ∧ True ∧ Q (.bl (Txt.isspace a)) H) gIsspace := by
  intro G H z xs as c Q s ra e k
  obtain ⟨rfl, e⟩ := m0_eq e
  cases ra
  cases e
  exact ⟨z, rfl, rfl, trivial, k _ G H ext_n s (.bl _)⟩
end Np

set_option Elab.async false
set_option linter.all false
set_option maxRecDepth 100000
namespace Np
open PySem PySem.Spec PyProof.Rows L2
section
variable {ρ : PEnv} {τ τ' : TS'} {F : Fn} {a : DA}
noncomputable def eMinK (F : Fn) (r : R (List DD)) : R DD := r.bind fun xs τ1 => match xs with
  | [.lst ds] => R.of τ1 (gMinK F ds)
  | _ => .no
@[simp] theorem ev_MinK : dMinK F a ρ τ = eMinK F (a ρ τ) := id rfl
@[simp] theorem eMinK_ok {ds : List DD} : eMinK F (.ok [.lst ds] τ) = R.of τ (gMinK F ds) := id rfl
def zpA? : List DD → Option (List DD)
  | [.lst ds, .lst es] => some (zipD ds es)
  | [.tup ds, .tup es] => some (zipD ds es)
  | _ => none
@[simp] theorem zpA?_l {ds es : List DD} : zpA? [.lst ds, .lst es] = some (zipD ds es) := id rfl
@[simp] theorem zpA?_t {ds es : List DD} : zpA? [.tup ds, .tup es] = some (zipD ds es) := id rfl
@[simp] theorem ev_IZipA : dIZipA a ρ τ = eUn (a ρ τ) zpA? := by
  unfold dIZipA eUn
  congr 1
  funext x τ1
  unfold zpA?
  rcases x with _ | ⟨d, _ | ⟨e, _ | ⟨f, x⟩⟩⟩
  · rfl
  · cases d <;> rfl
  · cases d <;> cases e <;> first | rfl | (dsimp only [R.of]; split <;> rfl)
  · cases d <;> cases e <;> rfl
theorem argBest_le (bt : Nat → Nat → Bool) : ∀ k, argBest bt k ≤ k
  | 0 => Nat.le_refl _
  | k + 1 => by
    unfold argBest
    split
    · exact Nat.le_refl _
    · exact Nat.le_succ_of_le (argBest_le bt k)
/-- none is less than the best of a list, when less is a chain -/
theorem argBest_minOn {bt : Nat → Nat → Bool} (ir : ∀ i, bt i i = false) : ∀ {n : Nat}, (∀ i j k, i ≤ n → j ≤ n → k ≤ n → bt i j = true → bt k j = false → bt k i = false) → ∀ i, i ≤ n → bt i (argBest bt n) = false
  | 0, _, i, h => by
    have : i = 0 := by omega
    subst this
    exact ir 0
  | n + 1, tr, i, h => by
    have ih := argBest_minOn ir (n := n) (fun i j k hi hj hk => tr i j k (by omega) (by omega) (by omega))
    have lb := argBest_le bt n
    unfold argBest
    split
    · rename_i hb
      by_cases e : i = n + 1
      · subst e; exact ir _
      · exact tr _ _ _ (Nat.le_refl _) (by omega) (by omega) hb (ih i (by omega))
    · rename_i hb
      by_cases e : i = n + 1
      · subst e; simpa using hb
      · exact ih i (by omega)
theorem eqv_ints : ∀ xs ys : List Int, PyData.eqvAll (xs.map .int) (ys.map .int) = decide (xs = ys)
  | [], [] => by simp [PyData.eqvAll]
  | [], y :: ys => by simp [PyData.eqvAll]
  | x :: xs, [] => by simp [PyData.eqvAll]
  | x :: xs, y :: ys => by
    have := eqv_ints xs ys
    simp only [List.map_cons, PyData.eqvAll, this, PyData.eqv]
    by_cases h : x = y <;> simp [h]
/-- a rank: a number, then numbers -/
def rkD (m : Int) (xs : List Int) : PyData := .tuple [.int m, .list (xs.map .int)]
theorem alike_ints : ∀ xs ys : List Int, PySem.W.alikeAll (xs.map .int) (ys.map .int) = true
  | [], _ => by simp [PySem.W.alikeAll]
  | _ :: _, [] => by simp [PySem.W.alikeAll]
  | x :: xs, y :: ys => by simp [PySem.W.alikeAll, PySem.W.alike, alike_ints xs ys]
theorem rk_alike (m n : Int) (xs ys : List Int) : PySem.W.alike (rkD m xs) (rkD n ys) = true := by
  simp [rkD, PySem.W.alike, PySem.W.alikeAll, alike_ints]
theorem rk_lt (m n : Int) (xs ys : List Int) : PySem.W.dataLt (rkD m xs) (rkD n ys) = decide (m < n ∨ (m = n ∧ xs < ys)) := by
  unfold rkD
  rw [PySem.W.dataLt_pair (by simp [PySem.W.alike]) (by simp [PySem.W.alike, alike_ints]), PySem.W.dataLt_int, PySem.W.dataLt_list]
  have e := PySem.W.dataLt_ints xs ys
  unfold PySem.W.rowLt at e
  rw [e]
  simp only [PyData.eqv, eqv_ints, beq_iff_eq]
  by_cases h1 : m = n
  · subst h1
    by_cases h2 : xs = ys
    · subst h2
      simp [List.lt_irrefl]
    · simp [h2]
  · simp [h1]
end
theorem gMinK_ok {F : Fn} {α : Type} {mk : α → DD} {m : α → Int} {ks : α → List Int} {xs : List α} (h0 : xs ≠ []) (hF : ∀ x ∈ xs, ∀ τ, F [.fr (mk x)] τ = .ok (.tup [.int (m x), .lst ((ks x).map .int)]) τ) :
    ∃ b ∈ xs, gMinK F (xs.map mk) = some (mk b) ∧ ∀ y ∈ xs, ¬ (m y < m b ∨ (m y = m b ∧ ks y < ks b)) := by
  have tp : ∀ l : List Int, toPys (l.map .int) = some (l.map .int) := fun l => by
    induction l with
    | nil => rw [List.map_nil, toPys]; rfl
    | cons a l ih => simp only [List.map_cons, toPys, ih, toPy]
  have kd : ∀ xs : List α, (∀ x ∈ xs, ∀ τ, F [.fr (mk x)] τ = .ok (.tup [.int (m x), .lst ((ks x).map .int)]) τ) → keysD F (xs.map mk) = some (xs.map fun x => rkD (m x) (ks x)) := by
    intro xs
    induction xs with
    | nil => intro _; rfl
    | cons x xs ih =>
      intro h
      rw [List.map_cons, keysD, h x (by simp)]
      simp only [toPy, toPys, tp, Option.map_some]
      rw [ih fun y hy => h y (List.mem_cons_of_mem _ hy)]
      rfl
  have hk := kd xs hF
  have ok : keysOk (xs.map fun x => rkD (m x) (ks x)) := by
    intro p hp
    obtain ⟨x, hx, rfl⟩ := List.mem_map.mp hp
    refine ⟨fun q hq => ?_, ?_, fun z => by cases z⟩
    · obtain ⟨y, hy, rfl⟩ := List.mem_map.mp hq
      exact rk_alike _ _ _ _
    · have : ∀ l : List Int, (PyData.depthAll (l.map PyData.int)) ≤ 0 := fun l => by
        induction l with
        | nil => simp [PyData.depthAll]
        | cons a l ih => simp [PyData.depthAll, PyData.depth] at ih ⊢; omega
      have h1 := this (ks x)
      simp only [rkD, PyData.depth, PyData.depthAll]
      omega
  have hl : 0 < xs.length := List.length_pos_iff.mpr h0
  have hb : bestD (xs.map fun x => rkD (m x) (ks x)) < xs.length := by
    unfold bestD
    have := argBest_le (fun i j => PySem.W.dataLt ((xs.map fun x => rkD (m x) (ks x)).getD i .none) ((xs.map fun x => rkD (m x) (ks x)).getD j .none)) ((xs.map fun x => rkD (m x) (ks x)).length - 1)
    rw [List.length_map] at this ⊢
    omega
  generalize hbd : bestD (xs.map fun x => rkD (m x) (ks x)) = bi at hb
  refine ⟨xs[bi], List.getElem_mem _, ?_, fun y hy hlt => ?_⟩
  · unfold gMinK
    rw [hk]
    simp only
    rw [if_pos ⟨by rw [List.length_map]; exact hl, ok⟩, hbd, List.getElem?_map, List.getElem?_eq_getElem hb]
    rfl
  · obtain ⟨i, hi, rfl⟩ := List.getElem_of_mem hy
    have gd : ∀ j (hj : j < xs.length), (xs.map fun x => rkD (m x) (ks x)).getD j .none = rkD (m xs[j]) (ks xs[j]) := fun j hj => by
      rw [List.getD_eq_getElem?_getD, List.getElem?_map, List.getElem?_eq_getElem hj]; rfl
    -- less over places
    let bt : Nat → Nat → Bool := fun i j => PySem.W.dataLt ((xs.map fun x => rkD (m x) (ks x)).getD i .none) ((xs.map fun x => rkD (m x) (ks x)).getD j .none)
    have hbt : ∀ i j (hi : i < xs.length) (hj : j < xs.length), bt i j = decide (m xs[i] < m xs[j] ∨ (m xs[i] = m xs[j] ∧ ks xs[i] < ks xs[j])) := fun i j hi hj => by
      show PySem.W.dataLt _ _ = _
      rw [gd i hi, gd j hj, rk_lt]
    have am := argBest_minOn (bt := bt) (n := xs.length - 1) (fun i => PySem.W.dataLt_self _) (fun i j k hi hj hk h1 h2 => by
      rw [hbt _ _ (by omega) (by omega)] at h1 h2 ⊢
      simp only [decide_eq_true_eq, decide_eq_false_iff_not] at h1 h2 ⊢
      intro h3
      apply h2
      rcases h1 with h1 | ⟨h1, h1'⟩ <;> rcases h3 with h3 | ⟨h3, h3'⟩
      · exact .inl (by omega)
      · exact .inl (by omega)
      · exact .inl (by omega)
      · exact .inr ⟨by omega, List.lt_trans h3' h1'⟩) i (by omega)
    have eb : argBest bt (xs.length - 1) = bi := by rw [← hbd]; unfold bestD; rw [List.length_map]
    rw [eb] at am
    rw [hbt i bi hi hb] at am
    simp only [decide_eq_false_iff_not] at am
    exact am hlt
end Np

set_option Elab.async false
set_option linter.all false
set_option maxRecDepth 100000
namespace Np
open PySem PySem.Spec PyProof.Rows L2
section
variable {ρ : PEnv} {τ τ' : TS'} {a : DA} {δ δh : DS} {exm : PySem.Str → Option Bool} {i : Nat} {x : Ex} {d : DD}
def eTh (o : Option Bool) (x : Ex) (ρ1 : PEnv) (τ1 : TS') (i : Nat) (δh : DS) : R Ct := match o with
  | some true => clrI i (δh (ρ1.set i (some (.fr (.exc x.cls x.fs)))) τ1)
  | some false => .ok (.xc x ρ1) τ1
  | none => .no
def eTryH (r : R Ct) (exm : PySem.Str → Option Bool) (i : Nat) (δh : DS) : R Ct := match r with
  | .ok (.xc x ρ1) τ1 => eTh (exm x.cls) x ρ1 τ1 i δh
  | r => r
@[simp] theorem ev_TryH : dTryH exm i δ δh ρ τ = eTryH (δ ρ τ) exm i δh := id rfl
@[simp] theorem eTryH_nx : eTryH (.ok (.nx ρ) τ) exm i δh = .ok (.nx ρ) τ := id rfl
@[simp] theorem eTryH_rt : eTryH (.ok (.rt d) τ) exm i δh = .ok (.rt d) τ := id rfl
@[simp] theorem eTryH_bk : eTryH (.ok (.bk ρ) τ) exm i δh = .ok (.bk ρ) τ := id rfl
@[simp] theorem eTryH_ct : eTryH (.ok (.ct ρ) τ) exm i δh = .ok (.ct ρ) τ := id rfl
@[simp] theorem eTryH_xc : eTryH (.ok (.xc x ρ) τ) exm i δh = eTh (exm x.cls) x ρ τ i δh := id rfl
@[simp] theorem eTh_t : eTh (some true) x ρ τ i δh = clrI i (δh (ρ.set i (some (.fr (.exc x.cls x.fs)))) τ) := id rfl
@[simp] theorem clrI_nx : clrI i (.ok (.nx ρ) τ) = .ok (.nx (ρ.set i none)) τ := id rfl
@[simp] theorem clrI_bk : clrI i (.ok (.bk ρ) τ) = .ok (.bk (ρ.set i none)) τ := id rfl
@[simp] theorem clrI_ct : clrI i (.ok (.ct ρ) τ) = .ok (.ct (ρ.set i none)) τ := id rfl
@[simp] theorem clrI_rt : clrI i (.ok (.rt d) τ) = .ok (.rt d) τ := id rfl
def enT? : List DD → Option (List DD)
  | [.tup ds] => some (enumD ds)
  | _ => none
@[simp] theorem enT?_eq {ds : List DD} : enT? [.tup ds] = some (enumD ds) := id rfl
@[simp] theorem ev_IEnumT : dIEnumT a ρ τ = eUn (a ρ τ) enT? := by
  unfold dIEnumT eUn
  congr 1
  funext x τ1
  unfold enT?
  rcases x with _ | ⟨d, _ | ⟨e, x⟩⟩
  · rfl
  · cases d <;> first | rfl | (dsimp only [R.of]; split <;> rfl)
  · cases d <;> rfl
def eMinD (r : R (List DD)) : R DD := r.bind fun xs τ1 => match xs with
  | [.lst ds] => R.of τ1 (gMinD ds)
  | _ => .no
@[simp] theorem ev_MinD : dMinD a ρ τ = eMinD (a ρ τ) := id rfl
@[simp] theorem eMinD_ok {ds : List DD} : eMinD (.ok [.lst ds] τ) = R.of τ (gMinD ds) := id rfl
@[simp] theorem eCons1_x {r : DA} : eCons1 (.ex x τ) r ρ = .ex x τ := id rfl
@[simp] theorem eCons2_x : eCons2 (.ex x τ) d = .ex x τ := id rfl
@[simp] theorem eSeqD_x {f : List DD → DD} : eSeqD (.ex x τ) f = .ex x τ := id rfl
@[simp] theorem eRet_x : eRet (.ex x τ) ρ = .ok (.xc x ρ) τ := id rfl
/-- the least of some numbers, or None -/
def minV : List Int → DD
  | [] => .non
  | n :: ns => .int (minL n ns)
theorem gMinD_ok (ns : List Int) : gMinD (ns.map .int) = some (minV ns) := by
  unfold gMinD
  have e : ints? (ns.map DD.int) = some ns := by
    have := ints?_mapf (f := fun x : Int => x) ns
    simpa using this
  rw [e]
  cases ns <;> rfl
def en (k : Nat) : List DD → List DD
  | [] => []
  | d :: ds => .tup [.int (k : Int), d] :: en (k + 1) ds
theorem en_mapIdx : ∀ (ds : List DD) (k : Nat), ds.mapIdx (fun i d => DD.tup [.int ((k + i : Nat) : Int), d]) = en k ds
  | [], _ => rfl
  | d :: ds, k => by
    rw [List.mapIdx_cons, en]
    congr 1
    have := en_mapIdx ds (k + 1)
    rw [← this]
    congr 1
    funext i d
    rw [show k + (i + 1) = k + 1 + i by omega]
theorem enumD_en (ds : List DD) : enumD ds = en 0 ds := by
  rw [← en_mapIdx ds 0]
  unfold enumD
  congr 1
  funext i d
  rw [Nat.zero_add]
end
end Np

set_option Elab.async false
set_option linter.all false
set_option maxRecDepth 100000
namespace Np
open PySem PySem.Spec PyProof.Rows L2
section
variable {ρ : PEnv} {τ τ' : TS'} {a b d x y : DE} {δ δh : DS} {c z : DD} {k : Key} {kvs : List (Key × DD)} {l : List (DE × DE)} {ps : List (DD × DD)} {da : DA} {e : Ex}
@[simp] theorem ev_Raise0 {cls : PySem.Str} : dRaise0 cls ρ τ = .ok (.xc ⟨cls, []⟩ ρ) τ := id rfl
def ePr3 (r : R (List (DD × DD))) (x y : DD) : R (List (DD × DD)) := r.bind fun ps τ3 => .ok ((x, y) :: ps) τ3
def ePr2 (r : R DD) (x : DD) (l : List (DE × DE)) (ρ : PEnv) : R (List (DD × DD)) := r.bind fun y τ2 => (dPairs l ρ τ2).bind fun ps τ3 => .ok ((x, y) :: ps) τ3
def ePr1 (r : R DD) (b : DE) (l : List (DE × DE)) (ρ : PEnv) : R (List (DD × DD)) := r.bind fun x τ1 => (b ρ τ1).bind fun y τ2 => (dPairs l ρ τ2).bind fun ps τ3 => .ok ((x, y) :: ps) τ3
@[simp] theorem dPairs_nil : dPairs [] ρ τ = .ok [] τ := id rfl
@[simp] theorem dPairs_cons : dPairs ((a, b) :: l) ρ τ = ePr1 (a ρ τ) b l ρ := id rfl
@[simp] theorem ePr1_ok : ePr1 (.ok c τ) b l ρ = ePr2 (b ρ τ) c l ρ := id rfl
@[simp] theorem ePr2_ok : ePr2 (.ok z τ) c l ρ = ePr3 (dPairs l ρ τ) c z := id rfl
@[simp] theorem ePr3_ok : ePr3 (.ok ps τ) c z = .ok ((c, z) :: ps) τ := id rfl
def hDisp (o : Option (List (Key × DD))) (τ : TS') : R DD := match o with
  | some kvs => if kvs.length ≤ 15 then .ok (.dic (mergeD [] kvs)) τ else .no
  | none => .no
def eDisp (r : R (List (DD × DD))) : R DD := r.bind fun ps τ1 => hDisp (keysDD ps) τ1
@[simp] theorem ev_Disp : dDisp l ρ τ = eDisp (dPairs l ρ τ) := id rfl
@[simp] theorem eDisp_ok : eDisp (.ok ps τ) = hDisp (keysDD ps) τ := id rfl
@[simp] theorem hDisp_ok : hDisp (some kvs) τ = if kvs.length ≤ 15 then .ok (.dic (mergeD [] kvs)) τ else .no := id rfl
@[simp] theorem keysDD_nil : keysDD [] = some [] := id rfl
def kc2 (k : Option Key) (v : DD) (r : Option (List (Key × DD))) : Option (List (Key × DD)) := match k, r with
  | some k, some r => some ((k, v) :: r)
  | _, _ => none
@[simp] theorem keysDD_cons : keysDD ((c, z) :: ps) = kc2 (keyD c) z (keysDD ps) := id rfl
@[simp] theorem kc2_ok : kc2 (some k) z (some kvs) = some ((k, z) :: kvs) := id rfl
@[simp] theorem keyD_int {i : Int} : keyD (.int i) = some (.inl i) := id rfl
@[simp] theorem keyD_str {i : PySem.Str} : keyD (.str i) = some (.inr i) := id rfl
def hGet (c : DD) (o : Option Key) (τ : TS') : R DD := match c, o with
  | .dic kvs, some k => R.of τ (valD kvs k)
  | _, _ => .no
def eGet2 (r : R DD) (c : DD) : R DD := r.bind fun k τ2 => hGet c (keyD k) τ2
def eGet1 (r : R DD) (y : DE) (ρ : PEnv) : R DD := r.bind fun x τ1 => (y ρ τ1).bind fun k τ2 => hGet x (keyD k) τ2
@[simp] theorem ev_DGet : dDGet d y ρ τ = eGet1 (d ρ τ) y ρ := id rfl
@[simp] theorem eGet1_ok : eGet1 (.ok c τ) y ρ = eGet2 (y ρ τ) c := id rfl
@[simp] theorem eGet2_ok : eGet2 (.ok z τ) c = hGet c (keyD z) τ := id rfl
@[simp] theorem hGet_ok : hGet (.dic kvs) (some k) τ = R.of τ (valD kvs k) := id rfl
def hIn (neg : Bool) (c : DD) (o : Option Key) (τ : TS') : R DD := match c, o with
  | .dic kvs, some k => .ok (.bl (if neg then !(valD kvs k).isSome else (valD kvs k).isSome)) τ
  | _, _ => .no
def eIn2 (r : R DD) (neg : Bool) (k : DD) : R DD := r.bind fun x τ2 => hIn neg x (keyD k) τ2
def eIn1 (r : R DD) (neg : Bool) (d : DE) (ρ : PEnv) : R DD := r.bind fun k τ1 => (d ρ τ1).bind fun x τ2 => hIn neg x (keyD k) τ2
@[simp] theorem ev_DIn {neg : Bool} : dDIn neg y d ρ τ = eIn1 (y ρ τ) neg d ρ := id rfl
@[simp] theorem eIn1_ok {neg : Bool} : eIn1 (.ok c τ) neg d ρ = eIn2 (d ρ τ) neg c := id rfl
@[simp] theorem eIn2_ok {neg : Bool} : eIn2 (.ok z τ) neg c = hIn neg z (keyD c) τ := id rfl
@[simp] theorem hIn_f : hIn false (.dic kvs) (some k) τ = .ok (.bl (valD kvs k).isSome) τ := id rfl
@[simp] theorem hIn_t : hIn true (.dic kvs) (some k) τ = .ok (.bl (!(valD kvs k).isSome)) τ := id rfl
def hGt3 (kvs : List (Key × DD)) (o : Option Key) (z : DD) (τ : TS') : R DD := match o with
  | some k => .ok ((valD kvs k).getD z) τ
  | none => .no
def eGt3 (r : R DD) (kvs : List (Key × DD)) (k : DD) : R DD := r.bind fun z τ3 => hGt3 kvs (keyD k) z τ3
def eGt2 (r : R DD) (kvs : List (Key × DD)) (x : DE) (ρ : PEnv) : R DD := r.bind fun k τ2 => (x ρ τ2).bind fun z τ3 => hGt3 kvs (keyD k) z τ3
def eGt1 (r : R DD) (y x : DE) (ρ : PEnv) : R DD := r.bind fun c τ1 => match c with
  | .dic kvs => (y ρ τ1).bind fun k τ2 => (x ρ τ2).bind fun z τ3 => hGt3 kvs (keyD k) z τ3
  | _ => .no
@[simp] theorem ev_DGet2 : dDGet2 d y x ρ τ = eGt1 (d ρ τ) y x ρ := id rfl
@[simp] theorem eGt1_ok : eGt1 (.ok (.dic kvs) τ) y x ρ = eGt2 (y ρ τ) kvs x ρ := id rfl
@[simp] theorem eGt2_ok : eGt2 (.ok c τ) kvs x ρ = eGt3 (x ρ τ) kvs c := id rfl
@[simp] theorem eGt3_ok : eGt3 (.ok z τ) kvs c = hGt3 kvs (keyD c) z τ := id rfl
@[simp] theorem hGt3_ok : hGt3 kvs (some k) z τ = .ok ((valD kvs k).getD z) τ := id rfl
def hStr3 (c1 : PySem.Str) (F1 : Fn) (c2 : PySem.Str) (F2 : Fn) (c3 : PySem.Str) (F3 : Fn) (C : PySem.Str) (fs : List (PySem.Str × DD)) (τ1 : TS') : R DD :=
  if C = c1 then hStrX F1 C fs τ1 else if C = c2 then hStrX F2 C fs τ1 else if C = c3 then hStrX F3 C fs τ1 else .no
def eStr3 (r : R (List DD)) (c1 : PySem.Str) (F1 : Fn) (c2 : PySem.Str) (F2 : Fn) (c3 : PySem.Str) (F3 : Fn) : R DD := r.bind fun xs τ1 => match xs with
  | [.exc C fs] => hStr3 c1 F1 c2 F2 c3 F3 C fs τ1
  | _ => .no
@[simp] theorem ev_StrX3 {c1 c2 c3 : PySem.Str} {F1 F2 F3 : Fn} : dStrX3 c1 F1 c2 F2 c3 F3 da ρ τ = eStr3 (da ρ τ) c1 F1 c2 F2 c3 F3 := id rfl
@[simp] theorem eStr3_ok {c1 c2 c3 C : PySem.Str} {F1 F2 F3 : Fn} {fs : List (PySem.Str × DD)} : eStr3 (.ok [.exc C fs] τ) c1 F1 c2 F2 c3 F3 = hStr3 c1 F1 c2 F2 c3 F3 C fs τ := id rfl
def hSx (r : R DD) : R DD := r.nox.bind fun d τ2 => match d with
  | .str z => .ok (.str z) τ2
  | _ => .no
@[simp] theorem hStrX_ev {F : Fn} {C : PySem.Str} {fs : List (PySem.Str × DD)} : hStrX F C fs τ = hSx (F [.fr (.exc C fs)] τ) := id rfl
@[simp] theorem hSx_ok {z : PySem.Str} : hSx (.ok (.str z) τ) = .ok (.str z) τ := id rfl
@[simp] theorem gStrA_int {i : Int} : gStrA (.int i) = if i.natAbs.log2 < 1920 then some (.str (toString i)) else none := id rfl
@[simp] theorem gStrA_str {i : PySem.Str} : gStrA (.str i) = some (.str i) := id rfl
@[simp] theorem gStrA_non : gStrA .non = some (.str "None") := id rfl
end
theorem toPys_bls : ∀ ns : List Bool, toPys (ns.map DD.bl) = some (ns.map PyData.bool)
  | [] => by rw [List.map_nil, toPys]; rfl
  | n :: ns => by rw [List.map_cons, toPys, toPys_bls ns, toPy]; rfl
theorem toPy_bls (ns : List Bool) : toPy (.lst (ns.map DD.bl)) = some (.list (ns.map PyData.bool)) := by rw [toPy, toPys_bls]; rfl
theorem shaped_bls (ns : List Bool) : SeqAt.shaped (.list (ns.map PyData.bool)) = true := Fine.shaped (k := 1) (Fine.list fun d hd => by
  obtain ⟨b, _, rfl⟩ := List.mem_map.mp hd
  exact Fine.bool _)
theorem eqv_bls : ∀ xs ys : List Bool, PyData.eqvAll (xs.map PyData.bool) (ys.map PyData.bool) = decide (xs = ys)
  | [], [] => by simp [PyData.eqvAll]
  | [], y :: ys => by simp [PyData.eqvAll]
  | x :: xs, [] => by simp [PyData.eqvAll]
  | x :: xs, y :: ys => by
    simp only [List.map_cons, PyData.eqvAll, eqv_bls xs ys, PyData.eqv]
    cases x <;> cases y <;> simp
theorem ne_bls (xs ys : List Bool) : gNeD (.lst (xs.map DD.bl)) (.lst (ys.map DD.bl)) = some (.bl (!decide (xs = ys))) := by
  show py2 _ _ _ = _
  rw [py2_eqs (toPy_bls xs) (toPy_bls ys) (shaped_bls xs) (shaped_bls ys)]
  congr 3
  rw [PyData.eqv, eqv_bls]
theorem eq_bls (xs ys : List Bool) : gEqD (.lst (xs.map DD.bl)) (.lst (ys.map DD.bl)) = some (.bl (decide (xs = ys))) := by
  show py2 _ _ _ = _
  rw [py2_eqs (toPy_bls xs) (toPy_bls ys) (shaped_bls xs) (shaped_bls ys)]
  congr 2
  rw [PyData.eqv, eqv_bls]
end Np

set_option Elab.async false
set_option linter.all false
set_option maxRecDepth 100000
namespace Np
open PySem PySem.Spec PyProof.Rows L2
section
variable {ρ : PEnv} {τ τ' : TS'} {x y : DE} {c z : DD} {k : Key} {kvs : List (Key × PySem.Str)}
def hKt (kvs : List (Key × PySem.Str)) (o : Option Key) (z : DD) (τ : TS') : R DD := match o with
  | some k => .ok ((valD (tvD kvs) k).getD z) τ
  | none => .no
def eKt2 (r : R DD) (kvs : List (Key × PySem.Str)) (k : DD) : R DD := r.bind fun z τ3 => hKt kvs (keyD k) z τ3
def eKt1 (r : R DD) (kvs : List (Key × PySem.Str)) (x : DE) (ρ : PEnv) : R DD := r.bind fun k τ2 => (x ρ τ2).bind fun z τ3 => hKt kvs (keyD k) z τ3
@[simp] theorem ev_KGet2 : dKGet2 kvs y x ρ τ = eKt1 (y ρ τ) kvs x ρ := id rfl
@[simp] theorem eKt1_ok : eKt1 (.ok c τ) kvs x ρ = eKt2 (x ρ τ) kvs c := id rfl
@[simp] theorem eKt2_ok : eKt2 (.ok z τ) kvs c = hKt kvs (keyD c) z τ := id rfl
@[simp] theorem hKt_ok : hKt kvs (some k) z τ = .ok ((valD (tvD kvs) k).getD z) τ := id rfl
def hKg (kvs : List (Key × PySem.Str)) (o : Option Key) (τ : TS') : R DD := match o with
  | some k => R.of τ (valD (tvD kvs) k)
  | none => .no
def eKg (r : R DD) (kvs : List (Key × PySem.Str)) : R DD := r.bind fun k τ2 => hKg kvs (keyD k) τ2
@[simp] theorem ev_KGet : dKGet kvs y ρ τ = eKg (y ρ τ) kvs := id rfl
@[simp] theorem eKg_ok : eKg (.ok c τ) kvs = hKg kvs (keyD c) τ := id rfl
@[simp] theorem hKg_ok : hKg kvs (some k) τ = R.of τ (valD (tvD kvs) k) := id rfl
def hKi (neg : Bool) (kvs : List (Key × PySem.Str)) (o : Option Key) (τ : TS') : R DD := match o with
  | some k => .ok (.bl (if neg then !(valD (tvD kvs) k).isSome else (valD (tvD kvs) k).isSome)) τ
  | none => .no
def eKi (r : R DD) (neg : Bool) (kvs : List (Key × PySem.Str)) : R DD := r.bind fun k τ2 => hKi neg kvs (keyD k) τ2
@[simp] theorem ev_KIn {neg : Bool} : dKIn neg kvs y ρ τ = eKi (y ρ τ) neg kvs := id rfl
@[simp] theorem eKi_ok {neg : Bool} : eKi (.ok c τ) neg kvs = hKi neg kvs (keyD c) τ := id rfl
@[simp] theorem hKi_t : hKi true kvs (some k) τ = .ok (.bl (!(valD (tvD kvs) k).isSome)) τ := id rfl
@[simp] theorem hKi_f : hKi false kvs (some k) τ = .ok (.bl ((valD (tvD kvs) k).isSome)) τ := id rfl
@[simp] theorem gReplC_eq {a b s : PySem.Str} : gReplC a b (.str s) = if s.length + (s.length + 1) * b.length ≤ 16777216 then some (.str (Txt.replace s a b)) else none := id rfl
end
end Np

set_option Elab.async false
set_option linter.all false
set_option maxRecDepth 100000
set_option maxHeartbeats 4000000
namespace Nk79
open PySem L2 Np
def g_PACKED : List (Key × PySem.Str) := [(.inr " ", "_"), (.inr "\n", "/"), (.inr "_", "~u"), (.inr "/", "~s"), (.inr "~", "~t")]
def g_MARKED : List (Key × PySem.Str) := [(.inr "u", "_"), (.inr "s", "/"), (.inr "t", "~")]
def b_packed : DS :=
    (dRet (dOrU (dM1 gJoin (dC (.str "")) (dLc (dIStr (dV 0)) (.nm 1) dYes (dKGet2 g_PACKED (dV 1) (dV 1)) [1])) (dC (.str "~e"))))
def d_packed : Fn := bodyF 2 b_packed
def b_plain_signs : DS :=
    (dRet (dUn (gReplC "/" "\n") (dUn (gReplC "_" " ") (dV 0))))
def d_plain_signs : Fn := bodyF 1 b_plain_signs
def b_text_in_L1_1 : DS :=
    (dAug 3 gCatS (dOp gCatS (dKGet g_MARKED (dOp gIxS (dV 4) (dC (.int 0)))) (dCallN 1 d_plain_signs [] (dpCons (dpE (dSl gSlS (dV 4) (dPart (dC (.int 1))) dNoP)) dpNil))))
def b_text_in_L1 : DS :=
    (dSeq (dIfS (dTest (dKIn true g_MARKED (dSl gSlS (dV 4) dNoP (dPart (dC (.int 1))))))
    (dRet (dC .non))
    dNx)
    b_text_in_L1_1)
def b_text_in_5 : DS :=
    (dRet (dV 3))
def b_text_in_4 : DS :=
    (dSeq (dFor (dIList (dSl gSlL (dV 2) (dPart (dC (.int 1))) dNoP)) (.nm 4)
    b_text_in_L1)
    b_text_in_5)
def b_text_in_3 : DS :=
    (dSeq (dSet 3 (dCallN 1 d_plain_signs [] (dpCons (dpE (dOp gIxL (dV 2) (dC (.int 0)))) dpNil)))
    b_text_in_4)
def b_text_in_2 : DS :=
    (dSeq (dSet 2 (dM1 gSplit (dV 0) (dC (.str "~"))))
    b_text_in_3)
def b_text_in_1 : DS :=
    (dSeq (dIfS (dOr (dTest (dOp (gEq false) (dV 0) (dC (.str "")))) (dTest (dCall (c1 gAnyL) (dCons (dLc (dIStr (dV 0)) (.nm 1) dYes (dM0 gIsspace (dV 1)) [1]) dNil))))
    (dRet (dC .non))
    dNx)
    b_text_in_2)
def b_text_in : DS :=
    (dSeq (dIfS (dTest (dOp (gEq false) (dV 0) (dC (.str "~e"))))
    (dRet (dC (.str "")))
    dNx)
    b_text_in_1)
def d_text_in : Fn := bodyF 5 b_text_in
def b_unpacked_3 : DS :=
    (dRet (dV 1))
def b_unpacked_2 : DS :=
    (dSeq (dIfS (dTest (dOp (gIsN false) (dV 1) (dC .non)))
    (dRaise "NoText" ["row"] (dCons (dC (.int 0)) dNil))
    dNx)
    b_unpacked_3)
def b_unpacked_1 : DS :=
    (dSeq (dIfS (dTest (dUn (gIsi "str") (dV 0)))
    (dSet 1 (dCallN 1 d_text_in [] (dpCons (dpE (dV 0)) dpNil)))
    dNx)
    b_unpacked_2)
def b_unpacked : DS :=
    (dSeq (dSet 1 (dC .non))
    b_unpacked_1)
def d_unpacked : Fn := bodyF 2 b_unpacked
def b__law_take_9 (F : Fn) : DS :=
    (dRet (dOp gMod (dOp gFdiv (dV 5) (dC (.int 97))) (dV 1)))
def b__law_take_8 (F : Fn) : DS :=
    (dSeq (dIfS (dTest (dOp gGt (dV 1) (dOp gPow (dC (.int 10)) (dC (.int 6)))))
    (dRet (dOp gMod (dOp gAdd (dOp gMod (dOp gFdiv (dV 5) (dC (.int 97))) (dOp gPow (dC (.int 10)) (dC (.int 6)))) (dOp gMul (dOp gPow (dC (.int 10)) (dC (.int 6))) (dCallN 2 F [] (dpCons (dpT 0) (dpCons (dpE (dOp gAdd (dOp gFdivN (dV 1) (dOp gPow (dC (.int 10)) (dC (.int 6)))) (dC (.int 1)))) dpNil))))) (dV 1)))
    dNx)
    (b__law_take_9 F))
def b__law_take_7 (F : Fn) : DS :=
    (dSeq (dSet 5 (dOp gMod (dOp gAdd (dOp gAdd (dOp gMul (dV 5) (dV 5)) (dOp gMul (dC (.int 48271)) (dV 5))) (dC (.int 31))) (dC (.int 2147483647))))
    (b__law_take_8 F))
def b__law_take_6 (F : Fn) : DS :=
    (dSeq (dSet 5 (dOp gMod (dOp gAdd (dOp gAdd (dOp gAdd (dOp gMul (dOp gMod (dV 4) (dC (.int 2147483587))) (dC (.int 40692))) (dOp gMul (dOp gMul (dC (.int 7907)) (dV 3)) (dV 3))) (dOp gMul (dC (.int 104729)) (dV 3))) (dC (.int 17))) (dC (.int 2147483629))))
    (b__law_take_7 F))
def b__law_take_5 (F : Fn) : DS :=
    (dSeq (dIfS (dAnd (dTest (dOp gLt (dV 3) (dCall (c1 gLenL) (dCons (dTd 0 .cells) dNil)))) (dTest (dOp gGe (dV 4) (dOp gPow (dC (.int 10)) (dC (.int 18))))))
    (dSeq (dTdPut 0 .left (dOp gFdivN (dOp Np.gSub (dV 4) (dOp gPow (dC (.int 10)) (dC (.int 18)))) (dV 1)))
    (dRet (dOp gMod (dOp Np.gSub (dV 4) (dOp gPow (dC (.int 10)) (dC (.int 18)))) (dV 1))))
    dNx)
    (b__law_take_6 F))
def b__law_take_4 (F : Fn) : DS :=
    (dSeq (dIfS (dTest (dOp gNeD (dTd 0 .cells) (dLst dNil)))
    (dSet 4 (dOp gIxL (dTd 0 .cells) (dOp gMod (dV 3) (dCall (c1 gLenL) (dCons (dTd 0 .cells) dNil)))))
    dNx)
    (b__law_take_5 F))
def b__law_take_3 (F : Fn) : DS :=
    (dSeq (dSet 4 (dC (.int 5)))
    (b__law_take_4 F))
def b__law_take_2 (F : Fn) : DS :=
    (dSeq (dTdPut 0 .at' (dOp gAdd (dV 3) (dC (.int 1))))
    (b__law_take_3 F))
def b__law_take_1 (F : Fn) : DS :=
    (dSeq (dSet 3 (dTd 0 .at'))
    (b__law_take_2 F))
def b__law_take (F : Fn) : DS :=
    (dSeq (dIfS (dTest (dOp gGt (dTd 0 .left) (dC (.int 0))))
    (dSeq (dSet 2 (dOp gMod (dTd 0 .left) (dV 1)))
    (dSeq (dTdPut 0 .left (dOp gFdivN (dTd 0 .left) (dV 1)))
    (dRet (dV 2))))
    dNx)
    (b__law_take_1 F))
def d__law_take_r : Nat → Fn
  | 0 => fun _ _ => .no
  | n + 1 => bodyF 6 (b__law_take (d__law_take_r n))
def d__law_take : Fn := d__law_take_r 2
def b__law_text_1 : DS :=
    (dRet (dM1 gJoin (dC (.str "")) (dLc (dIR1 (dCons (dCallN 2 d__law_take [] (dpCons (dpT 0) (dpCons (dpE (dV 1)) dpNil))) dNil)) (.nm 3) dYes (dOp gIxS (dV 2) (dCallN 2 d__law_take [] (dpCons (dpT 0) (dpCons (dpE (dCall (c1 gLenS) (dCons (dV 2) dNil))) dpNil)))) [3])))
def b__law_text : DS :=
    (dSeq (dSet 2 (dC (.str " \n_/~ !\"#$&'()*+,-.:;<=>?\x40[]^`|abcxyzABCXYZ0123456789\\/_~")))
    b__law_text_1)
def d__law_text : Fn := bodyF 4 b__law_text
def b__law_packed_1 : DS :=
    (dRet (dOrU (dM1 gJoin (dC (.str "")) (dLc (dIStr (dV 0)) (.nm 2) dYes (dDGet2 (dV 1) (dV 2) (dV 2)) [2])) (dC (.str "~e"))))
def b__law_packed : DS :=
    (dSeq (dSet 1 (dDisp [((dC (.str " ")), (dC (.str "_"))), ((dC (.str "\n")), (dC (.str "/"))), ((dC (.str "_")), (dC (.str "~u"))), ((dC (.str "/")), (dC (.str "~s"))), ((dC (.str "~")), (dC (.str "~t")))]))
    b__law_packed_1)
def d__law_packed : Fn := bodyF 3 b__law_packed
def b__law_unpacked_L1 : DS :=
    (dIfS (dTest (dV 2))
    (dSeq (dIfS (dTest (dOp (gInF true) (dV 3) (dTup (dCons (dC (.str "u")) (dCons (dC (.str "s")) (dCons (dC (.str "t")) dNil))))))
    (dRet (dC .non))
    dNx)
    (dSeq (dSet 1 (dOp gCatS (dV 1) (dDGet (dDisp [((dC (.str "u")), (dC (.str "_"))), ((dC (.str "s")), (dC (.str "/"))), ((dC (.str "t")), (dC (.str "~")))]) (dV 3))))
    (dSet 2 (dC (.bl false)))))
    (dIfS (dTest (dOp (gEq false) (dV 3) (dC (.str "~"))))
    (dSet 2 (dC (.bl true)))
    (dIfS (dTest (dOp (gInF false) (dV 3) (dTup (dCons (dC (.str " ")) (dCons (dC (.str "\n")) dNil)))))
    (dRet (dC .non))
    (dSet 1 (dOp gCatS (dV 1) (dDGet2 (dDisp [((dC (.str "_")), (dC (.str " "))), ((dC (.str "/")), (dC (.str "\n")))]) (dV 3) (dV 3)))))))
def b__law_unpacked_3 : DS :=
    (dRet (dIf (dOr (dTest (dV 2)) (dTest (dOp (gEq false) (dV 0) (dC (.str ""))))) (dC .non) (dV 1)))
def b__law_unpacked_2 : DS :=
    (dSeq (dFor (dIStr (dV 0)) (.nm 3)
    b__law_unpacked_L1)
    b__law_unpacked_3)
def b__law_unpacked_1 : DS :=
    (dSeq (dAsgT (dTup (dCons (dC (.str "")) (dCons (dC (.bl false)) dNil))) (.tp [(.nm 1), (.nm 2)]))
    b__law_unpacked_2)
def b__law_unpacked : DS :=
    (dSeq (dIfS (dTest (dOp (gEq false) (dV 0) (dC (.str "~e"))))
    (dRet (dC (.str "")))
    dNx)
    b__law_unpacked_1)
def d__law_unpacked : Fn := bodyF 4 b__law_unpacked
def b__law_told_2 : DS :=
    (dRet (dIf (dTest (dOp (gIsN false) (dV 2) (dC .non))) (dTup (dCons (dC (.str "told")) (dCons (dV 1) dNil))) (dTup (dCons (dC (.str "refused")) (dCons (dV 2) dNil)))))
def b__law_told_1 : DS :=
    (dSeq (dTryH (tb "NoText" true tb0) 3
    (dSet 1 (dCallP 1 d_unpacked [] (dpCons (dpE (dV 0)) dpNil)))
    (dIfS (dAnd (dTest (dIsX (tb "NoText" true tb0) (dV 3))) (dAnd (dTest (dIsX (tb "NoText" true tb0) (dV 3))) (dNot (dTest (dIsX (tb "NoText" false tb0) (dV 3))))))
    (dSet 2 (dFx (fun (s : PySem.Str) => decide (s ∈ (["NoText"] : List PySem.Str))) "row" (dV 3)))
    (dSet 2 (dC (.str "other")))))
    b__law_told_2)
def b__law_told : DS :=
    (dSeq (dAsgT (dTup (dCons (dC .non) (dCons (dC .non) dNil))) (.tp [(.nm 1), (.nm 2)]))
    b__law_told_1)
def d__law_told : Fn := bodyN 4 b__law_told
def b__law_bent_2 : DS :=
    (dRet (dOp gCatS (dOp gCatS (dSl gSlS (dV 1) dNoP (dPart (dV 3))) (dOp gIxL (dLst (dCons (dV 4) (dCons (dV 4) (dCons (dC (.str "")) dNil)))) (dCallN 2 d__law_take [] (dpCons (dpT 0) (dpCons (dpE (dC (.int 3))) dpNil))))) (dSl gSlS (dV 1) (dPart (dOp gAdd (dV 3) (dCallN 2 d__law_take [] (dpCons (dpT 0) (dpCons (dpE (dC (.int 2))) dpNil))))) dNoP)))
def b__law_bent_1 : DS :=
    (dSeq (dPar 3 4 (dCons (dCallN 2 d__law_take [] (dpCons (dpT 0) (dpCons (dpE (dOp gAdd (dCall (c1 gLenS) (dCons (dV 1) dNil)) (dC (.int 1)))) dpNil))) (dCons (dOp gIxS (dV 2) (dCallN 2 d__law_take [] (dpCons (dpT 0) (dpCons (dpE (dCall (c1 gLenS) (dCons (dV 2) dNil))) dpNil)))) dNil)))
    b__law_bent_2)
def b__law_bent : DS :=
    (dSeq (dSet 2 (dC (.str " \n_/~uste~xA09{}")))
    b__law_bent_1)
def d__law_bent : Fn := bodyF 5 b__law_bent
def b_law_L2_2 : DS :=
    (dIfS (dOr (dTest (dOp (gEq true) (dCall (c1 gRepr) (dCons (dCallN 1 d__law_told [] (dpCons (dpE (dV 6)) dpNil)) dNil)) (dCall (c1 gRepr) (dCons (dV 8) dNil)))) (dOr (dTest (dOp (gEq true) (dCallKN 1 0 1 d_unpacked (pickL [] [.z 0]) dpNil (dpCons (dpE (dV 5)) dpNil)) (dV 4))) (dTest (dOp (gEq true) (dCallKN 1 0 1 d_packed (pickL [] [.z 0]) dpNil (dpCons (dpE (dV 4)) dpNil)) (dV 5)))))
    (dRet (dC (.bl false)))
    dNx)
def b_law_L2_1 : DS :=
    (dSeq (dSet 8 (dIf (dTest (dOp (gIsN false) (dV 7) (dC .non))) (dTup (dCons (dC (.str "refused")) (dCons (dC (.int 0)) dNil))) (dTup (dCons (dC (.str "told")) (dCons (dV 7) dNil)))))
    b_law_L2_2)
def b_law_L2 : DS :=
    (dSeq (dSet 7 (dCallN 1 d__law_unpacked [] (dpCons (dpE (dV 6)) dpNil)))
    b_law_L2_1)
def b_law_L1_3 : DS :=
    (dFor (dITup (dTup (dCons (dCallN 2 d__law_bent [] (dpCons (dpT 1) (dpCons (dpE (dV 5)) dpNil))) (dCons (dCallN 2 d__law_bent [] (dpCons (dpT 1) (dpCons (dpE (dCallN 2 d__law_bent [] (dpCons (dpT 1) (dpCons (dpE (dV 5)) dpNil)))) dpNil))) dNil)))) (.nm 6)
    b_law_L2)
def b_law_L1_2 : DS :=
    (dSeq (dIfS (dTest (dOp (gEq true) (dCall (c1 gRepr) (dCons (dCallN 1 d__law_told [] (dpCons (dpE (dV 5)) dpNil)) dNil)) (dCall (c1 gRepr) (dCons (dTup (dCons (dC (.str "told")) (dCons (dV 4) dNil))) dNil))))
    (dRet (dC (.bl false)))
    dNx)
    b_law_L1_3)
def b_law_L1_1 : DS :=
    (dSeq (dIfS (dOr (dTest (dOp (gEq true) (dV 5) (dCallN 1 d__law_packed [] (dpCons (dpE (dV 4)) dpNil)))) (dOr (dTest (dOp (gInC false) (dC (.str " ")) (dV 5))) (dOr (dTest (dOp (gInC false) (dC (.str "\n")) (dV 5))) (dTest (dOp (gEq false) (dV 5) (dC (.str "")))))))
    (dRet (dC (.bl false)))
    dNx)
    b_law_L1_2)
def b_law_L1 : DS :=
    (dSeq (dSet 5 (dCallN 1 d_packed [] (dpCons (dpE (dV 4)) dpNil)))
    b_law_L1_1)
def b_law_4 : DS :=
    (dRet (dOp gEqD (dLc (dIList (dV 9)) (.nm 6) (dTest (dOp (gEq true) (dCall (c1 gRepr) (dCons (dCallN 1 d__law_told [] (dpCons (dpE (dV 6)) dpNil)) dNil)) (dCall (c1 gRepr) (dCons (dTup (dCons (dC (.str "refused")) (dCons (dC (.int 0)) dNil))) dNil)))) (dV 6) [6]) (dLst dNil)))
def b_law_3 : DS :=
    (dSeq (dSet 9 (dLst (dCons (dC .non) (dCons (dC (.bl true)) (dCons (dC (.int 0)) (dCons (dC (.int 7)) (dCons (dLst dNil) (dCons (dLst (dCons (dC (.str "a")) dNil)) (dCons (dTup (dCons (dC (.str "a")) dNil)) (dCons (dC (.dic [])) (dCons (dLst (dCons (dOp gIxL (dV 2) (dC (.int 0))) dNil)) (dCons (dOp gPow (dC (.int 10)) (dC (.int 30))) dNil))))))))))))
    b_law_4)
def b_law_2 : DS :=
    (dSeq (dFor (dIList (dV 2)) (.nm 4)
    b_law_L1)
    b_law_3)
def b_law_1 : DS :=
    (dSeq (dSet 2 (dOp gCat (dLc (dIR1 (dCons (dC (.int 30)) dNil)) (.nm 3) dYes (dCallN 2 d__law_text [] (dpCons (dpT 1) (dpCons (dpE (dC (.int 41))) dpNil))) [3]) (dLst (dCons (dC (.str "")) (dCons (dC (.str "e")) (dCons (dC (.str "~e")) (dCons (dC (.str " ")) (dCons (dC (.str "\n")) (dCons (dOp gMulS (dCallN 2 d__law_text [] (dpCons (dpT 1) (dpCons (dpE (dC (.int 2))) dpNil))) (dC (.int 2000))) dNil)))))))))
    b_law_2)
def b_law : DS :=
    (dSeq (dMkT 1 0)
    b_law_1)
def d_law : Fn := bodyF 10 b_law
end Nk79

set_option Elab.async false
set_option linter.all false
set_option maxRecDepth 100000
set_option maxHeartbeats 4000000
namespace Nk79
open PySem L2 Np
def top (i : Nat) : Stmt := PySem.Challenge.pw_nightpaper_k79_texts_packed.main.body.getD i (.Pass ⟨0, 0, 0, 0⟩)
abbrev s_NoTextD_initD : Stmt := inClass (top 2) 0
abbrev nm_NoTextD_initD : List Str := ["self", "row"]
abbrev ps_NoTextD_initD : List Str := ["self", "row"]
abbrev s_NoCopyD_initD : Stmt := inClass (top 3) 0
abbrev nm_NoCopyD_initD : List Str := ["self", "at"]
abbrev ps_NoCopyD_initD : List Str := ["self", "at"]
abbrev s_packed : Stmt := top 10
abbrev nm_packed : List Str := ["text", "sign"]
abbrev ps_packed : List Str := ["text"]
abbrev s_plain_signs : Stmt := top 11
abbrev nm_plain_signs : List Str := ["part"]
abbrev ps_plain_signs : List Str := ["part"]
abbrev s_text_in : Stmt := top 12
abbrev nm_text_in : List Str := ["word", "sign", "parts", "found", "part"]
abbrev ps_text_in : List Str := ["word"]
abbrev s_unpacked : Stmt := top 13
abbrev nm_unpacked : List Str := ["text", "found"]
abbrev ps_unpacked : List Str := ["text"]
abbrev s__law_held : Stmt := top 15
abbrev nm__law_held : List Str := ["_law_script"]
abbrev ps__law_held : List Str := ["_law_script"]
abbrev s__law_take : Stmt := top 16
abbrev nm__law_take : List Str := ["_law_held_here", "_law_many", "_law_found", "_law_at", "_law_cell", "_law_number"]
abbrev ps__law_take : List Str := ["_law_held_here", "_law_many"]
abbrev s__law_text : Stmt := top 17
abbrev nm__law_text : List Str := ["_law_held_here", "_law_most", "_law_signs", "_law_k"]
abbrev ps__law_text : List Str := ["_law_held_here", "_law_most"]
abbrev s__law_packed : Stmt := top 18
abbrev nm__law_packed : List Str := ["_law_line", "_law_others", "_law_sign"]
abbrev ps__law_packed : List Str := ["_law_line"]
abbrev s__law_unpacked : Stmt := top 19
abbrev nm__law_unpacked : List Str := ["_law_word", "_law_found", "_law_waits", "_law_sign"]
abbrev ps__law_unpacked : List Str := ["_law_word"]
abbrev s__law_told : Stmt := top 20
abbrev nm__law_told : List Str := ["_law_thing", "_law_found", "_law_row", "e"]
abbrev ps__law_told : List Str := ["_law_thing"]
abbrev s__law_bent : Stmt := top 21
abbrev nm__law_bent : List Str := ["_law_held_here", "_law_word", "_law_signs", "_law_at", "_law_sign"]
abbrev ps__law_bent : List Str := ["_law_held_here", "_law_word"]
abbrev s_law : Stmt := top 22
abbrev nm_law : List Str := ["_law_script", "_law_held_here", "_law_texts", "_law_k", "_law_line", "_law_word", "_law_thing", "_law_due", "_law_wanted", "_law_things"]
abbrev ps_law : List Str := ["_law_script"]
theorem sc_NoTextD_initD : FnScope nm_NoTextD_initD ps_NoTextD_initD (defScope s_NoTextD_initD) := ⟨rfl, rfl, rfl, by decide +kernel, rfl, by decide +kernel, by decide +kernel⟩
theorem sc_NoCopyD_initD : FnScope nm_NoCopyD_initD ps_NoCopyD_initD (defScope s_NoCopyD_initD) := ⟨rfl, rfl, rfl, by decide +kernel, rfl, by decide +kernel, by decide +kernel⟩
theorem sc_packed : FnScope nm_packed ps_packed (defScope s_packed) := ⟨rfl, rfl, rfl, by decide +kernel, rfl, by decide +kernel, by decide +kernel⟩
theorem sc_plain_signs : FnScope nm_plain_signs ps_plain_signs (defScope s_plain_signs) := ⟨rfl, rfl, rfl, by decide +kernel, rfl, by decide +kernel, by decide +kernel⟩
theorem sc_text_in : FnScope nm_text_in ps_text_in (defScope s_text_in) := ⟨rfl, rfl, rfl, by decide +kernel, rfl, by decide +kernel, by decide +kernel⟩
theorem sc_unpacked : FnScope nm_unpacked ps_unpacked (defScope s_unpacked) := ⟨rfl, rfl, rfl, by decide +kernel, rfl, by decide +kernel, by decide +kernel⟩
theorem sc__law_held : FnScope nm__law_held ps__law_held (defScope s__law_held) := ⟨rfl, rfl, rfl, by decide +kernel, rfl, by decide +kernel, by decide +kernel⟩
theorem sc__law_take : FnScope nm__law_take ps__law_take (defScope s__law_take) := ⟨rfl, rfl, rfl, by decide +kernel, rfl, by decide +kernel, by decide +kernel⟩
theorem sc__law_text : FnScope nm__law_text ps__law_text (defScope s__law_text) := ⟨rfl, rfl, rfl, by decide +kernel, rfl, by decide +kernel, by decide +kernel⟩
theorem sc__law_packed : FnScope nm__law_packed ps__law_packed (defScope s__law_packed) := ⟨rfl, rfl, rfl, by decide +kernel, rfl, by decide +kernel, by decide +kernel⟩
theorem sc__law_unpacked : FnScope nm__law_unpacked ps__law_unpacked (defScope s__law_unpacked) := ⟨rfl, rfl, rfl, by decide +kernel, rfl, by decide +kernel, by decide +kernel⟩
theorem sc__law_told : FnScope nm__law_told ps__law_told (defScope s__law_told) := ⟨rfl, rfl, rfl, by decide +kernel, rfl, by decide +kernel, by decide +kernel⟩
theorem sc__law_bent : FnScope nm__law_bent ps__law_bent (defScope s__law_bent) := ⟨rfl, rfl, rfl, by decide +kernel, rfl, by decide +kernel, by decide +kernel⟩
theorem sc_law : FnScope nm_law ps_law (defScope s_law) := ⟨rfl, rfl, rfl, by decide +kernel, rfl, by decide +kernel, by decide +kernel⟩
structure Ad where
  NightError : Addr
  NoText : Addr
  NoCopy : Addr
  NoDeed : Addr
  NoRow : Addr
  cm : CM
structure Txt (K : PySem.W.Frag) (mg : Str → Option Value) (c : Ad) : Prop where
  b_ValueError : mg "ValueError" = none
  b_any : mg "any" = none
  b_isinstance : mg "isinstance" = none
  b_len : mg "len" = none
  b_list : mg "list" = none
  b_range : mg "range" = none
  b_repr : mg "repr" = none
  b_str : mg "str" = none
  g_EMPTY : Glb mg "EMPTY" (.str "~e")
  g_NightError : mg "NightError" = some (.ref c.NightError)
  g_NoText : mg "NoText" = some (.ref c.NoText)
  g_NoCopy : mg "NoCopy" = some (.ref c.NoCopy)
  g_NoDeed : mg "NoDeed" = some (.ref c.NoDeed)
  g_NoRow : mg "NoRow" = some (.ref c.NoRow)
  bas_NightError : BaseC K mg "NightError" c.NightError
  oex_NoText : OexC K c.NoText
  exc_NoText : ExcC K c.NoText
  no_NoText_row : PySem.W.findIn K (.ref c.NoText) "row" = some none
  exm_NoText_NightError : PySem.W.exmOne K (.ref c.NoText) (.ref c.NightError) = some true
  kit_NoText_NoText : PySem.W.kitOne K (.ref c.NoText) (.ref c.NoText) = some true
  kit_NoText_ValueError : PySem.W.kitOne K (.ref c.NoText) (.type "ValueError") = some true
  kit_NoText_NoCopy : PySem.W.kitOne K (.ref c.NoText) (.ref c.NoCopy) = some false
  kit_NoText_NoDeed : PySem.W.kitOne K (.ref c.NoText) (.ref c.NoDeed) = some false
  kit_NoText_NoRow : PySem.W.kitOne K (.ref c.NoText) (.ref c.NoRow) = some false
  cm_NoText : c.cm "NoText" = c.NoText
theorem ok_NoTextD_initD {P : Program} {w : World} {K : PySem.W.Frag} {mg : Str → Option Value} {base : Heap} {c : Ad} {f : Addr} {fd : FuncData} (T : Txt K mg c) (F : Fun K "__init__" "NoText.__init__" s_NoTextD_initD f fd) : FnOk P w K mg base CX0 1 f fd ps_NoTextD_initD (spInit c.NoText ["row"]) := by
  refine F.ok sc_NoTextD_initD (fun vs H Q E h => ?_) (fun cdv A outer s H vs Q E hr h => ?_)
  · obtain ⟨a, ws, rfl, hl, _⟩ := h
    exact congrArg Nat.succ hl
  · obtain ⟨a, ws, rfl, hl, ha, k⟩ := h
    obtain ⟨w0, rfl⟩ : ∃ w0 : V, ws = [w0] := by
      match ws, hl with
      | [w0], _ => exact ⟨_, rfl⟩
    refine ⟨_, (pss_cons (ps_expr (pe_binit K T.bas_NightError (pa_cons (pv 0) (pa_cons pe_str pa_nil))))
      (pss_one (ps_ost (pv 0) (pv 1)))), ?_⟩
    refine ⟨_, rfl, a, _, [_], rfl, (by show 1 ≤ 1000; decide), T.oex_NoText, ha, ?_⟩
    refine ⟨_, rfl, _, rfl, a, _, rfl, T.oex_NoText, T.no_NoText_row, .inl ⟨ha, fun d nd ne => ?_⟩⟩
    refine k d _ nd ne ?_ ?_ (fun b h1 h2 => ?_)
    · exact upd_same
    · rw [upd_ne ne]
      exact upd_same
    · rw [upd_ne h1, upd_ne h2]
end Nk79

set_option Elab.async false
set_option linter.all false
set_option maxRecDepth 100000
set_option maxHeartbeats 4000000
namespace Nk79
open PySem L2 Np
/-! packing and unpacking, sign by sign -/
def pk (c : Nat) : List Nat := if c = 32 then [95] else if c = 10 then [47] else if c = 95 then [126, 117] else if c = 47 then [126, 115] else if c = 126 then [126, 116] else [c]
def pkL (l : List Nat) : List Nat := l.flatMap pk
def packL (l : List Nat) : List Nat := if pkL l = [] then [126, 101] else pkL l
def ps (c : Nat) : Nat := if c = 95 then 32 else if c = 47 then 10 else c
def mk1 (c : Nat) : Option Nat := if c = 117 then some 95 else if c = 115 then some 47 else if c = 116 then some 126 else none
def un : Bool → List Nat → Option (List Nat)
  | false, [] => some []
  | true, [] => none
  | true, c :: r => match mk1 c with
    | some d => (un false r).map (d :: ·)
    | none => none
  | false, c :: r => if c = 126 then un true r else if c = 32 ∨ c = 10 then none else (un false r).map (ps c :: ·)
def unL (w : List Nat) : Option (List Nat) := if w = [126, 101] then some [] else if w = [] then none else un false w
def hasB (w : List Nat) : Bool := w.any fun c => decide (c = 32) || decide (c = 10)
theorem un_blank : ∀ (w : List Nat) (b : Bool), hasB w = true → un b w = none
  | [], _, h => by simp [hasB] at h
  | c :: r, b, h => by
    have ih := fun b => un_blank r b
    have hc : (c = 32 ∨ c = 10) ∨ hasB r = true := by
      simp only [hasB, List.any_cons, Bool.or_eq_true, decide_eq_true_eq] at h
      exact h
    cases b with
    | true =>
      unfold un
      rcases hc with hc | hc
      · have : mk1 c = none := by rcases hc with rfl | rfl <;> rfl
        rw [this]
      · rw [ih false hc]
        cases mk1 c <;> rfl
    | false =>
      unfold un
      rcases hc with hc | hc
      · rw [if_neg (by omega), if_pos hc]
      · rw [ih false hc, ih true hc]
        split
        · rfl
        · split <;> rfl
/-- the program's way: by the marks -/
def goR : List (List Nat) → Option (List Nat)
  | [] => some []
  | [] :: _ => none
  | (c :: q) :: rest => match mk1 c with
    | some d => (goR rest).map (d :: q.map ps ++ ·)
    | none => none
def goP : List (List Nat) → Option (List Nat)
  | [] => none
  | p :: rest => (goR rest).map (p.map ps ++ ·)
theorem splitL_mark (r : List Nat) : splitL 126 (126 :: r) = [] :: splitL 126 r := by
  have := splitL_free (c := 126) (p := []) (l := r) (by simp)
  simpa using this
theorem splitL_other {c : Nat} {r p : List Nat} {rest : List (List Nat)} (h : c ≠ 126) (e : splitL 126 r = p :: rest) : splitL 126 (c :: r) = (c :: p) :: rest := by
  rw [splitL, if_neg (by simpa using h), e]
theorem un_split : ∀ (w : List Nat), hasB w = false → (∀ p rest, splitL 126 w = p :: rest → un false w = (goR rest).map (p.map ps ++ ·)) ∧ (un true w = goR (splitL 126 w))
  | [], _ => by
    have e : splitL 126 [] = [[]] := rfl
    refine ⟨fun p rest h => ?_, ?_⟩
    · rw [e] at h
      cases h
      rfl
    · rw [e]; rfl
  | c :: r, h => by
    have hc : ¬ (c = 32 ∨ c = 10) ∧ hasB r = false := by
      simp only [hasB, List.any_cons, Bool.or_eq_false_iff, decide_eq_false_iff_not] at h
      exact ⟨fun z => z.elim h.1.1 h.1.2, h.2⟩
    obtain ⟨ih1, ih2⟩ := un_split r hc.2
    rcases hs : splitL 126 r with _ | ⟨p0, rest0⟩
    · exact absurd hs (splitL_ne 126 r)
    have i1 := ih1 p0 rest0 hs
    by_cases h6 : c = 126
    · subst h6
      rw [splitL_mark, hs]
      refine ⟨fun p rest e => ?_, ?_⟩
      · cases e
        rw [un, if_pos rfl, ih2, hs]
        cases goR (p0 :: rest0) <;> rfl
      · rw [un]
        rfl
    · rw [splitL_other h6 hs]
      refine ⟨fun p rest e => ?_, ?_⟩
      · cases e
        rw [un, if_neg h6, if_neg hc.1, i1]
        cases goR rest0 <;> rfl
      · rw [un, goR]
        cases mk1 c with
        | none => rfl
        | some d =>
          simp only
          rw [i1]
          cases goR rest0 <;> rfl
theorem un_go {w : List Nat} (h : hasB w = false) : un false w = goP (splitL 126 w) := by
  rcases hs : splitL 126 w with _ | ⟨p0, rest0⟩
  · exact absurd hs (splitL_ne 126 w)
  · exact (un_split w h).1 p0 rest0 hs
theorem un_pk : ∀ (l r : List Nat), un false (pkL l ++ r) = (un false r).map (l ++ ·)
  | [], r => by
    show un false r = _
    cases un false r <;> rfl
  | c :: l, r => by
    have ih := un_pk l r
    have e : pkL (c :: l) ++ r = pk c ++ (pkL l ++ r) := by unfold pkL; rw [List.flatMap_cons, List.append_assoc]
    rw [e]
    have key : ∀ t : List Nat, un false (pk c ++ t) = (un false t).map (c :: ·) := by
      intro t
      unfold pk
      split
      · rename_i h; subst h; rfl
      · split
        · rename_i h; subst h; rfl
        · split
          · rename_i h; subst h
            show un true (117 :: t) = _
            rw [un]; rfl
          · split
            · rename_i h; subst h
              show un true (115 :: t) = _
              rw [un]; rfl
            · split
              · rename_i h; subst h
                show un true (116 :: t) = _
                rw [un]; rfl
              · rename_i h1 h2 h3 h4 h5
                show un false (c :: t) = _
                rw [un, if_neg h5, if_neg (by omega)]
                have : ps c = c := by unfold ps; rw [if_neg h3, if_neg h4]
                rw [this]
    rw [key, ih]
    cases un false r <;> rfl
theorem pk_ne (c : Nat) : pk c ≠ [] := by
  unfold pk
  split
  · simp
  · split
    · simp
    · split
      · simp
      · split
        · simp
        · split <;> simp
theorem pkL_nil {l : List Nat} : pkL l = [] ↔ l = [] := by
  constructor
  · intro h
    cases l with
    | nil => rfl
    | cons c l =>
      unfold pkL at h
      rw [List.flatMap_cons, List.append_eq_nil_iff] at h
      exact absurd h.1 (pk_ne c)
  · rintro rfl; rfl
theorem pk_e (l : List Nat) : pkL l ≠ [126, 101] := by
  intro h
  have := un_pk l []
  rw [List.append_nil, h] at this
  simp [un, mk1] at this
theorem un_packL (l : List Nat) : unL (packL l) = some l := by
  unfold packL
  split
  · rename_i h
    rw [pkL_nil.mp h]
    rfl
  · rename_i h
    unfold unL
    rw [if_neg (pk_e l), if_neg h]
    have := un_pk l []
    rw [List.append_nil] at this
    rw [this]
    simp [un]
theorem pk_len (c : Nat) : (pk c).length ≤ 2 := by
  unfold pk
  split
  · simp
  · split
    · simp
    · split
      · simp
      · split
        · simp
        · split <;> simp
theorem pkL_len : ∀ l : List Nat, (pkL l).length ≤ 2 * l.length
  | [] => by simp [pkL]
  | c :: l => by
    have := pkL_len l
    have := pk_len c
    unfold pkL at *
    rw [List.flatMap_cons, List.length_append, List.length_cons]
    omega
theorem packL_len (l : List Nat) : (packL l).length ≤ 2 * l.length + 2 := by
  have := pkL_len l
  unfold packL
  split
  · simp
  · omega
theorem packL_ne (l : List Nat) : packL l ≠ [] := by
  unfold packL
  split
  · simp
  · assumption
theorem pk_nb (c : Nat) : 32 ∉ pk c ∧ 10 ∉ pk c := by
  unfold pk
  split
  · simp
  · split
    · simp
    · split
      · simp
      · split
        · simp
        · split
          · simp
          · simp; omega
theorem packL_nb (l : List Nat) : 32 ∉ packL l ∧ 10 ∉ packL l := by
  unfold packL
  split
  · simp
  · unfold pkL
    simp only [List.mem_flatMap, not_exists, not_and]
    exact ⟨fun c _ => (pk_nb c).1, fun c _ => (pk_nb c).2⟩
/-- signs that may stand -/
def As (l : List Nat) : Prop := ∀ c ∈ l, c = 10 ∨ (32 ≤ c ∧ c ≤ 126)
theorem As.cp {l : List Nat} (h : As l) : Cp l := fun c hc => by have := h c hc; omega
theorem As.app {l m : List Nat} (h : As l) (k : As m) : As (l ++ m) := fun c hc => (List.mem_append.mp hc).elim (h c) (k c)
theorem As.take {l : List Nat} (h : As l) (n : Nat) : As (l.take n) := fun c hc => h c (List.mem_of_mem_take hc)
theorem As.drop {l : List Nat} (h : As l) (n : Nat) : As (l.drop n) := fun c hc => h c (List.mem_of_mem_drop hc)
theorem pk_as {c : Nat} (h : c = 10 ∨ (32 ≤ c ∧ c ≤ 126)) : As (pk c) := by
  unfold pk
  intro d hd
  split at hd
  · simp at hd; omega
  · split at hd
    · simp at hd; omega
    · split at hd
      · simp at hd; omega
      · split at hd
        · simp at hd; omega
        · split at hd
          · simp at hd; omega
          · simp at hd; omega
theorem packL_as {l : List Nat} (h : As l) : As (packL l) := by
  unfold packL
  split
  · intro c hc; simp at hc; omega
  · intro c hc
    unfold pkL at hc
    obtain ⟨d, hd, hc⟩ := List.mem_flatMap.mp hc
    exact pk_as (h d hd) c hc
theorem un_as : ∀ (w : List Nat) (b : Bool) {l : List Nat}, As w → un b w = some l → As l ∧ l.length ≤ w.length
  | [], false, l, _, h => by cases h; exact ⟨(fun c hc => nomatch hc : As []), Nat.le_refl _⟩
  | [], true, l, _, h => by cases h
  | c :: r, b, l, hw, h => by
    have hr : As r := fun d hd => hw d (List.mem_cons_of_mem _ hd)
    have hc := hw c (by simp)
    cases b with
    | true =>
      unfold un at h
      split at h
      · rename_i d hd
        obtain ⟨m, hm, rfl⟩ := Option.map_eq_some_iff.mp h
        obtain ⟨a, b⟩ := un_as r false hr hm
        refine ⟨fun x hx => ?_, by simp; omega⟩
        rcases List.mem_cons.mp hx with rfl | hx
        · unfold mk1 at hd
          split at hd
          · cases hd; omega
          · split at hd
            · cases hd; omega
            · split at hd
              · cases hd; omega
              · cases hd
        · exact a x hx
      · cases h
    | false =>
      unfold un at h
      split at h
      · obtain ⟨a, b⟩ := un_as r true hr h
        exact ⟨a, by simp; omega⟩
      · split at h
        · cases h
        · obtain ⟨m, hm, rfl⟩ := Option.map_eq_some_iff.mp h
          obtain ⟨a, b⟩ := un_as r false hr hm
          refine ⟨fun x hx => ?_, by simp; omega⟩
          rcases List.mem_cons.mp hx with rfl | hx
          · unfold ps; split
            · omega
            · split <;> omega
          · exact a x hx
theorem unL_as {w l : List Nat} (hw : As w) (h : unL w = some l) : As l ∧ l.length ≤ w.length := by
  unfold unL at h
  split at h
  · cases h
    have z : As [] := fun c hc => nomatch hc
    exact ⟨z, Nat.zero_le _⟩
  · split at h
    · cases h
    · exact un_as w false hw h
theorem repl_map (c b : Nat) : ∀ l : List Nat, joinL [b] (splitL c l) = l.map fun x => if x = c then b else x
  | [] => rfl
  | x :: l => by
    have ih := repl_map c b l
    rcases hs : splitL c l with _ | ⟨p, rest⟩
    · exact absurd hs (splitL_ne c l)
    rw [hs] at ih
    by_cases h : x = c
    · subst h
      have e : splitL x (x :: l) = [] :: splitL x l := by
        have := splitL_free (c := x) (p := []) (l := l) (by simp)
        simpa using this
      rw [e, hs, List.map_cons, if_pos rfl, ← ih]
      rfl
    · have e : splitL c (x :: l) = (x :: p) :: rest := by rw [splitL, if_neg (by simpa using h), hs]
      rw [e, List.map_cons, if_neg h, ← ih]
      cases rest <;> rfl

/-! the texts in the program -/
theorem l_e : Str.ofString "" = S [] := by decide +kernel
theorem l_sp : Str.ofString " " = S [32] := by decide +kernel
theorem l_nl : Str.ofString "\n" = S [10] := by decide +kernel
theorem l_us : Str.ofString "_" = S [95] := by decide +kernel
theorem l_sl : Str.ofString "/" = S [47] := by decide +kernel
theorem l_ti : Str.ofString "~" = S [126] := by decide +kernel
theorem l_tu : Str.ofString "~u" = S [126, 117] := by decide +kernel
theorem l_ts : Str.ofString "~s" = S [126, 115] := by decide +kernel
theorem l_tt : Str.ofString "~t" = S [126, 116] := by decide +kernel
theorem l_te : Str.ofString "~e" = S [126, 101] := by decide +kernel
theorem l_u : Str.ofString "u" = S [117] := by decide +kernel
theorem l_s : Str.ofString "s" = S [115] := by decide +kernel
theorem l_t : Str.ofString "t" = S [116] := by decide +kernel
def PKD : List (Key × DD) := [(.inr (S [32]), .str (S [95])), (.inr (S [10]), .str (S [47])), (.inr (S [95]), .str (S [126, 117])), (.inr (S [47]), .str (S [126, 115])), (.inr (S [126]), .str (S [126, 116]))]
def MKD : List (Key × DD) := [(.inr (S [117]), .str (S [95])), (.inr (S [115]), .str (S [47])), (.inr (S [116]), .str (S [126]))]
theorem pkd_eq : tvD g_PACKED = PKD := by
  unfold tvD g_PACKED PKD
  simp only [List.map, l_sp, l_nl, l_us, l_sl, l_ti, l_tu, l_ts, l_tt]
theorem mkd_eq : tvD g_MARKED = MKD := by
  unfold tvD g_MARKED MKD
  simp only [List.map, l_u, l_s, l_t, l_us, l_sl, l_ti]
theorem find_ne {k k' : Key} {d : DD} {r : List (Key × DD)} (h : k' ≠ k) : valD ((k', d) :: r) k = valD r k := by
  unfold valD
  rw [List.find?_cons_of_neg (by simpa using h)]
theorem find_eq {k : Key} {d : DD} {r : List (Key × DD)} : valD ((k, d) :: r) k = some d := by
  unfold valD
  rw [List.find?_cons_of_pos (by simp)]
  rfl
theorem kne {a b : Nat} (h : a ≠ b) : (Sum.inr (S [a]) : Key) ≠ .inr (S [b]) := fun z => by
  have : S [a] = S [b] := Sum.inr.inj z
  have := S_inj.mp this
  simp at this
  exact h this
theorem pk_val (c : Nat) : (valD PKD (.inr (S [c]))).getD (.str (S [c])) = .str (S (pk c)) := by
  unfold PKD pk
  by_cases h1 : c = 32
  · subst h1; rw [find_eq, if_pos rfl]; rfl
  rw [find_ne (kne (Ne.symm h1)), if_neg h1]
  by_cases h2 : c = 10
  · subst h2; rw [find_eq, if_pos rfl]; rfl
  rw [find_ne (kne (Ne.symm h2)), if_neg h2]
  by_cases h3 : c = 95
  · subst h3; rw [find_eq, if_pos rfl]; rfl
  rw [find_ne (kne (Ne.symm h3)), if_neg h3]
  by_cases h4 : c = 47
  · subst h4; rw [find_eq, if_pos rfl]; rfl
  rw [find_ne (kne (Ne.symm h4)), if_neg h4]
  by_cases h5 : c = 126
  · subst h5; rw [find_eq, if_pos rfl]; rfl
  rw [find_ne (kne (Ne.symm h5)), if_neg h5]
  rfl
theorem mk_val (c : Nat) : valD MKD (.inr (S [c])) = (mk1 c).map fun d => .str (S [d]) := by
  unfold MKD mk1
  by_cases h1 : c = 117
  · subst h1; rw [find_eq, if_pos rfl]; rfl
  rw [find_ne (kne (Ne.symm h1)), if_neg h1]
  by_cases h2 : c = 115
  · subst h2; rw [find_eq, if_pos rfl]; rfl
  rw [find_ne (kne (Ne.symm h2)), if_neg h2]
  by_cases h3 : c = 116
  · subst h3; rw [find_eq, if_pos rfl]; rfl
  rw [find_ne (kne (Ne.symm h3)), if_neg h3]
  rfl
theorem mk_emp : valD MKD (.inr (S [])) = none := by
  unfold MKD
  have : ∀ a : Nat, (Sum.inr (S [a]) : Key) ≠ .inr (S []) := fun a z => by
    have : S [a] = S [] := Sum.inr.inj z
    have := S_inj.mp this
    cases this
  rw [find_ne (this _), find_ne (this _), find_ne (this _)]
  rfl
theorem join_pk {l : List Nat} (h : l.length ≤ 100000) : gJoin (S []) [.lst (l.map fun c => .str (S (pk c)))] = some (.str (S (pkL l))) := by
  have sm : ((l.map pk).map (·.length)).sum ≤ 2 * l.length := by
    induction l with
    | nil => simp
    | cons c l ih =>
      have := pk_len c
      have := ih (by simp at h; omega)
      simp only [List.map_cons, List.sum_cons, List.length_cons] at *
      omega
  have j := join_gen (s := []) (ps := l.map pk) (by simp at sm ⊢; omega)
  rw [List.map_map, joinL_nil] at j
  have e : (l.map pk).flatten = pkL l := by unfold pkL; rw [List.flatMap_def]
  rw [e] at j
  exact j
theorem packed_ok {l : List Nat} (h : l.length ≤ 3000) {τ : TS'} : d_packed [.fr (.str (S l))] τ = .ok (.str (S (packL l))) τ := by
  have lc : ∀ o0, lcL (.nm 1) dYes (dKGet2 g_PACKED (dV 1) (dV 1)) [o0, none] (l.map fun c => .str (S [c])) τ = .ok (l.map fun c => .str (S (pk c))) τ := fun o0 =>
    lcL_mapOf fun c hc => ⟨_, tgF_nm, by
      have := pk_val c
      rw [← pkd_eq] at this
      simp [this]⟩
  have jn := join_pk (l := l) (by omega)
  have pl := pkL_len l
  unfold packL
  by_cases q : pkL l = []
  · rw [if_pos q]
    rw [q] at jn
    generalize (l.map fun c => DD.str (S (pk c))) = Y at *
    simp (disch := first | omega | (simp <;> omega) | fail) [if_pos, d_packed, b_packed, ev_body, startP, List.replicate, l_e, l_te, lc, jn, tru]
  · rw [if_neg q]
    have q2 : (((pkL l).length : Int) != 0) = true := by
      have : (pkL l).length ≠ 0 := fun z => q (List.length_eq_zero_iff.mp z)
      simp only [bne_iff_ne, ne_eq]
      omega
    generalize (l.map fun c => DD.str (S (pk c))) = Y at *
    generalize pkL l = Z at *
    simp (disch := first | omega | (simp <;> omega) | fail) [if_pos, d_packed, b_packed, ev_body, startP, List.replicate, l_e, l_te, lc, jn, tru, q, q2]
theorem lpacked_ok {l : List Nat} (h : l.length ≤ 3000) {τ : TS'} : d__law_packed [.fr (.str (S l))] τ = .ok (.str (S (packL l))) τ := by
  have dg : mergeD [] [((.inr (S [32]) : Key), DD.str (S [95])), (.inr (S [10]), .str (S [47])), (.inr (S [95]), .str (S [126, 117])), (.inr (S [47]), .str (S [126, 115])), (.inr (S [126]), .str (S [126, 116]))] = PKD := by rfl
  have lc : ∀ o0, lcL (.nm 2) dYes (dDGet2 (dV 1) (dV 2) (dV 2)) [o0, some (.fr (.dic PKD)), none] (l.map fun c => .str (S [c])) τ = .ok (l.map fun c => .str (S (pk c))) τ := fun o0 =>
    lcL_mapOf fun c hc => ⟨_, tgF_nm, by
      have := pk_val c
      generalize PKD = P at *
      simp [this]⟩
  have jn := join_pk (l := l) (by omega)
  have pl := pkL_len l
  unfold packL
  generalize PKD = P at *
  by_cases q : pkL l = []
  · rw [if_pos q]
    rw [q] at jn
    generalize (l.map fun c => DD.str (S (pk c))) = Y at *
    simp (disch := first | omega | (simp <;> omega) | fail) [if_pos, d__law_packed, b__law_packed, b__law_packed_1, ev_body, startP, List.replicate, l_e, l_te, l_sp, l_nl, l_us, l_sl, l_ti, l_tu, l_ts, l_tt, dg, lc, jn, tru]
  · rw [if_neg q]
    have q2 : (((pkL l).length : Int) != 0) = true := by
      have : (pkL l).length ≠ 0 := fun z => q (List.length_eq_zero_iff.mp z)
      simp only [bne_iff_ne, ne_eq]
      omega
    generalize (l.map fun c => DD.str (S (pk c))) = Y at *
    generalize pkL l = Z at *
    simp (disch := first | omega | (simp <;> omega) | fail) [if_pos, d__law_packed, b__law_packed, b__law_packed_1, ev_body, startP, List.replicate, l_e, l_te, l_sp, l_nl, l_us, l_sl, l_ti, l_tu, l_ts, l_tt, dg, lc, jn, tru, q, q2]
theorem repl_S (l : List Nat) (c b : Nat) : Txt.replace (S l) (S [c]) (S [b]) = S (joinL [b] (splitL c l)) := by
  have e := StrLaws.replace_one (S l) (S [b]) c
  rw [show (⟨#[c]⟩ : PySem.Str) = S [c] from rfl] at e
  rw [e, split_S]
  have j := join_l (S [b]) ((splitL c l).map S)
  rw [S_l, List.map_map] at j
  have k : ((splitL c l).map ((fun z : PySem.Str => z.cps.toList) ∘ S)) = splitL c l := by
    conv => rhs; rw [← List.map_id (splitL c l)]
    exact List.map_congr_left fun p _ => S_l p
  rw [k] at j
  rw [S_of (Str.join (S [b]) ((splitL c l).map S)), j]
theorem plain_ok {p : List Nat} (h : p.length ≤ 100000) {τ : TS'} : d_plain_signs [.fr (.str (S p))] τ = .ok (.str (S (p.map ps))) τ := by
  have e1 : Txt.replace (S p) (S [95]) (S [32]) = S (p.map fun x => if x = 95 then 32 else x) := by rw [repl_S, repl_map]
  have e2 : Txt.replace (S (p.map fun x => if x = 95 then 32 else x)) (S [47]) (S [10]) = S (p.map ps) := by
    rw [repl_S, repl_map, List.map_map]
    congr 1
    refine List.map_congr_left fun x _ => ?_
    show (if (if x = 95 then 32 else x) = 47 then 10 else (if x = 95 then 32 else x)) = ps x
    unfold ps
    by_cases h : x = 95
    · subst h; rfl
    · rw [if_neg h, if_neg h]
  have l1 : (p.map fun x => if x = 95 then 32 else x).length = p.length := List.length_map _
  generalize (p.map fun x => if x = 95 then 32 else x) = Q at *
  simp (disch := first | omega | (simp <;> omega) | fail) [if_pos, d_plain_signs, b_plain_signs, ev_body, startP, List.replicate, l_us, l_sp, l_sl, l_nl, e1, e2, l1]

/-! reading a packed word -/
theorem spc {c : Nat} (h : c = 10 ∨ (32 ≤ c ∧ c ≤ 126)) : Txt.isspace (S [c]) = (decide (c = 32) || decide (c = 10)) := by
  have k : ∀ c < 127, (c = 10 ∨ 32 ≤ c) → Txt.isspace (S [c]) = (decide (c = 32) || decide (c = 10)) := by decide +kernel
  exact k c (by omega) (by omega)
theorem any_bls {α : Type} {f : α → Bool} (l : List α) : bls? (l.map fun c => DD.bl (f c)) = some (l.map f) := by
  induction l with
  | nil => rfl
  | cons c l ih => simp only [List.map_cons, bls?, ih]; rfl
def oS : Option (List Nat) → DD
  | some l => .str (S l)
  | none => .non
theorem text_loop {o0 o2 : Option PV} {τ : TS'} : ∀ (rest : List (List Nat)) (f : List Nat) (o1 o4 : Option PV), f.length + (rest.map (·.length)).sum ≤ 100000 →
    (∀ l, goR rest = some l → ∃ o, forL (.nm 4) b_text_in_L1 (sL rest) [o0, o1, o2, some (.fr (.str (S f))), o4] τ = .ok (.nx [o0, o1, o2, some (.fr (.str (S (f ++ l)))), o]) τ) ∧
    (goR rest = none → forL (.nm 4) b_text_in_L1 (sL rest) [o0, o1, o2, some (.fr (.str (S f))), o4] τ = .ok (.rt .non) τ)
  | [], f, o1, o4, h => by
    refine ⟨fun l hl => ?_, fun z => by cases z⟩
    cases hl
    exact ⟨o4, by rw [sL_nil, forL_nil, List.append_nil]⟩
  | [] :: rest, f, o1, o4, h => by
    refine ⟨fun l hl => (by cases hl), fun _ => ?_⟩
    rw [sL_cons, forL_cons tgF_nm]
    have c1 : cutL ([] : List Nat) none (some 1) = [] := rfl
    have v : valD (tvD g_MARKED) (.inr (S [])) = none := by rw [mkd_eq]; exact mk_emp
    simp (disch := first | omega | (simp <;> omega) | fail) [if_pos, b_text_in_L1, b_text_in_L1_1, c1, v]
  | (c :: q) :: rest, f, o1, o4, h => by
    simp only [List.map_cons, List.sum_cons, List.length_cons] at h
    have c1 : cutL (c :: q) none (some 1) = [c] := by rw [cutL_to (by decide)]; rfl
    have c2 : cutL (c :: q) (some 1) none = q := by rw [cutL_from (by decide)]; rfl
    have v : valD (tvD g_MARKED) (.inr (S [c])) = (mk1 c).map fun d => .str (S [d]) := by rw [mkd_eq]; exact mk_val c
    rw [sL_cons, forL_cons tgF_nm]
    rcases hm : mk1 c with _ | d
    · rw [hm] at v
      have g : goR ((c :: q) :: rest) = none := by rw [goR, hm]
      rw [g]
      refine ⟨fun l hl => (by cases hl), fun _ => ?_⟩
      simp (disch := first | omega | (simp <;> omega) | fail) [if_pos, b_text_in_L1, b_text_in_L1_1, c1, v]
    · rw [hm] at v
      have v' : valD (tvD g_MARKED) (.inr (S [c])) = some (.str (S [d])) := v
      have g : goR ((c :: q) :: rest) = (goR rest).map (d :: q.map ps ++ ·) := by rw [goR, hm]
      have pl : ∀ τ, d_plain_signs [.fr (.str (S q))] τ = .ok (.str (S (q.map ps))) τ := fun τ => plain_ok (by omega)
      have ql : (q.map ps).length = q.length := List.length_map _
      have ih := text_loop (o0 := o0) (o2 := o2) (τ := τ) rest (f ++ ([d] ++ q.map ps)) o1 (some (.fr (.str (S (c :: q))))) (by simp; omega)
      have at0 : (⟨#[c]⟩ : PySem.Str) = S [c] := rfl
      have turn : b_text_in_L1 (List.set [o0, o1, o2, some (.fr (.str (S f))), o4] 4 (some (.fr (.str (S (c :: q)))))) τ = .ok (.nx [o0, o1, o2, some (.fr (.str (S (f ++ ([d] ++ q.map ps))))), some (.fr (.str (S (c :: q))))]) τ := by
        generalize q.map ps = Q at *
        simp (disch := first | omega | (simp <;> omega) | fail) [if_pos, b_text_in_L1, b_text_in_L1_1, c1, c2, v', pl, at0]
      rw [turn, eTurn_nx, g]
      refine ⟨fun l hl => ?_, fun z => ih.2 (Option.map_eq_none_iff.mp z)⟩
      obtain ⟨m, hm, rfl⟩ := Option.map_eq_some_iff.mp hl
      obtain ⟨o, e⟩ := ih.1 m hm
      refine ⟨o, ?_⟩
      rw [e]
      simp
theorem split_sum (c : Nat) (w : List Nat) : ((splitL c w).map (·.length)).sum ≤ w.length := by
  have := split_weight' c w
  have k : 0 < (splitL c w).length := List.length_pos_iff.mpr (splitL_ne c w)
  omega
theorem text_in_ok {w : List Nat} (hw : As w) (h : w.length ≤ 50000) {τ : TS'} : d_text_in [.fr (.str (S w))] τ = .ok (oS (unL w)) τ := by
  have lc : ∀ o0 o2 o3 o4, lcL (.nm 1) dYes (dM0 gIsspace (dV 1)) [o0, none, o2, o3, o4] (w.map fun c => .str (S [c])) τ = .ok (w.map fun c => .bl (decide (c = 32) || decide (c = 10))) τ := fun o0 o2 o3 o4 =>
    lcL_mapOf fun c hc => ⟨_, tgF_nm, by
      have := spc (hw c hc)
      simp [this]⟩
  have an : bls? (w.map fun c => DD.bl (decide (c = 32) || decide (c = 10))) = some (w.map fun c => (decide (c = 32) || decide (c = 10))) := any_bls w
  have hb : (w.map fun c => (decide (c = 32) || decide (c = 10))).any id = hasB w := by rw [List.any_map]; rfl
  by_cases q1 : w = [126, 101]
  · subst q1
    simp (disch := first | omega | (simp <;> omega) | fail) [if_pos, d_text_in, b_text_in, ev_body, startP, List.replicate, l_e, l_te, unL, oS]
  have s1 : S w ≠ S [126, 101] := fun z => q1 (S_inj.mp z)
  by_cases q2 : w = []
  · subst q2
    simp (disch := first | omega | (simp <;> omega) | fail) [if_pos, d_text_in, b_text_in, b_text_in_1, ev_body, startP, List.replicate, l_e, l_te, unL, oS]
  have s2 : S w ≠ S [] := fun z => q2 (S_inj.mp z)
  have u : unL w = un false w := by unfold unL; rw [if_neg q1, if_neg q2]
  rcases hB : hasB w with _ | _
  · rw [u, un_go hB]
    rcases hs : splitL 126 w with _ | ⟨p, rest⟩
    · exact absurd hs (splitL_ne 126 w)
    have sp := split_sL w 126
    have sm := split_sum 126 w
    rw [hs, sL_cons] at sp
    rw [hs] at sm
    simp only [List.map_cons, List.sum_cons] at sm
    have pl : ∀ τ, d_plain_signs [.fr (.str (S p))] τ = .ok (.str (S (p.map ps))) τ := fun τ => plain_ok (by omega)
    have pn : (p.map ps).length = p.length := List.length_map _
    have lp := fun o0 o1 o2 o4 => text_loop (o0 := o0) (o2 := o2) (τ := τ) rest (p.map ps) o1 o4 (by omega)
    have ct : cutL (DD.str (S p) :: sL rest) (some 1) none = sL rest := by rw [cutL_from (by decide)]; rfl
    rw [goP]
    rw [hB] at hb
    generalize (w.map fun c => DD.bl (decide (c = 32) || decide (c = 10))) = X1 at *
    generalize (w.map fun c => (decide (c = 32) || decide (c = 10))) = X2 at *
    generalize hP : p.map ps = P at *
    rcases hg : goR rest with _ | l
    · have lp2 : ∀ o0 o1 o2 o4, forL (.nm 4) b_text_in_L1 (sL rest) [o0, o1, o2, some (.fr (.str (S P))), o4] τ = .ok (.rt .non) τ := fun o0 o1 o2 o4 => (lp o0 o1 o2 o4).2 hg
      generalize sL rest = Rs at *
      simp (disch := first | omega | (simp <;> omega) | fail) [if_pos, d_text_in, b_text_in, b_text_in_1, b_text_in_2, b_text_in_3, b_text_in_4, b_text_in_5, ev_body, startP, List.replicate, l_e, l_te, l_ti, oS, s1, s2, lc, an, hb, sp, pl, ct, lp2]
    · have lp2 : ∀ o0 o1 o2 o4, ∃ o, forL (.nm 4) b_text_in_L1 (sL rest) [o0, o1, o2, some (.fr (.str (S P))), o4] τ = .ok (.nx [o0, o1, o2, some (.fr (.str (S (P ++ l)))), o]) τ := fun o0 o1 o2 o4 => (lp o0 o1 o2 o4).1 l hg
      generalize sL rest = Rs at *
      obtain ⟨o, e⟩ := lp2 (some (.fr (.str (S w)))) none (some (.fr (.lst (DD.str (S p) :: Rs)))) none
      simp (disch := first | omega | (simp <;> omega) | fail) [if_pos, d_text_in, b_text_in, b_text_in_1, b_text_in_2, b_text_in_3, b_text_in_4, b_text_in_5, ev_body, startP, List.replicate, l_e, l_te, l_ti, oS, s1, s2, lc, an, hb, sp, pl, ct, e]
  · rw [u, un_blank w false hB]
    rw [hB] at hb
    generalize (w.map fun c => DD.bl (decide (c = 32) || decide (c = 10))) = X1 at *
    generalize (w.map fun c => (decide (c = 32) || decide (c = 10))) = X2 at *
    simp (disch := first | omega | (simp <;> omega) | fail) [if_pos, d_text_in, b_text_in, b_text_in_1, ev_body, startP, List.replicate, l_e, l_te, oS, s1, s2, lc, an, hb]

/-! the law's own reading -/
theorem in_ust (c : Nat) : gInF true (.str (S [c])) (.tup [.str (S [117]), .str (S [115]), .str (S [116])]) = some (.bl (mk1 c).isNone) := by
  have e : gInF true (.str (S [c])) (.tup [.str (S [117]), .str (S [115]), .str (S [116])]) = (gInF false (.str (S [c])) (.lst (([S [117], S [115], S [116]] : List PySem.Str).map DD.str))).map fun d => match d with | .bl b => .bl (!b) | d => d := rfl
  rw [e, gInF_strs]
  simp only [Option.map_some, List.mem_cons, List.not_mem_nil, or_false, S_inj, List.cons.injEq, and_true]
  unfold mk1
  by_cases h1 : c = 117
  · subst h1; rfl
  rw [if_neg h1]
  by_cases h2 : c = 115
  · subst h2; rfl
  rw [if_neg h2]
  by_cases h3 : c = 116
  · subst h3; rfl
  rw [if_neg h3]
  simp [h1, h2, h3]
theorem in_bl (c : Nat) : gInF false (.str (S [c])) (.tup [.str (S [32]), .str (S [10])]) = some (.bl (decide (c = 32 ∨ c = 10))) := by
  have e : gInF false (.str (S [c])) (.tup [.str (S [32]), .str (S [10])]) = gInF false (.str (S [c])) (.lst (([S [32], S [10]] : List PySem.Str).map DD.str)) := rfl
  rw [e, gInF_strs]
  simp only [List.mem_cons, List.not_mem_nil, or_false, S_inj, List.cons.injEq, and_true]
def PSD : List (Key × DD) := [(.inr (S [95]), .str (S [32])), (.inr (S [47]), .str (S [10]))]
theorem ps_val (c : Nat) : (valD PSD (.inr (S [c]))).getD (.str (S [c])) = .str (S [ps c]) := by
  unfold PSD ps
  by_cases h3 : c = 95
  · subst h3; rw [find_eq, if_pos rfl]; rfl
  rw [find_ne (kne (Ne.symm h3)), if_neg h3]
  by_cases h4 : c = 47
  · subst h4; rw [find_eq, if_pos rfl]; rfl
  rw [find_ne (kne (Ne.symm h4)), if_neg h4]
  rfl
theorem mk_m : mergeD [] [((.inr (S [117]) : Key), DD.str (S [95])), (.inr (S [115]), .str (S [47])), (.inr (S [116]), .str (S [126]))] = MKD := by rfl
theorem ps_m : mergeD [] [((.inr (S [95]) : Key), DD.str (S [32])), (.inr (S [47]), .str (S [10]))] = PSD := by rfl
theorem lun_loop {o0 : Option PV} {τ : TS'} : ∀ (w : List Nat) (b : Bool) (f : List Nat) (o : Option PV), f.length + w.length ≤ 100000 →
    (∀ l, un b w = some l → ∃ o', forL (.nm 3) b__law_unpacked_L1 (w.map fun c => .str (S [c])) [o0, some (.fr (.str (S f))), some (.fr (.bl b)), o] τ = .ok (.nx [o0, some (.fr (.str (S (f ++ l)))), some (.fr (.bl false)), o']) τ) ∧
    (un b w = none → forL (.nm 3) b__law_unpacked_L1 (w.map fun c => .str (S [c])) [o0, some (.fr (.str (S f))), some (.fr (.bl b)), o] τ = .ok (.rt .non) τ ∨ ∃ g o', forL (.nm 3) b__law_unpacked_L1 (w.map fun c => .str (S [c])) [o0, some (.fr (.str (S f))), some (.fr (.bl b)), o] τ = .ok (.nx [o0, g, some (.fr (.bl true)), o']) τ)
  | [], false, f, o, h => by
    refine ⟨fun l hl => ?_, fun z => by cases z⟩
    cases hl
    exact ⟨o, by rw [List.map_nil, forL_nil, List.append_nil]⟩
  | [], true, f, o, h => ⟨fun l hl => (by cases hl), fun _ => .inr ⟨_, o, by rw [List.map_nil, forL_nil]⟩⟩
  | c :: r, true, f, o, h => by
    simp only [List.length_cons] at h
    have iu := in_ust c
    have v := mk_val c
    rw [List.map_cons, forL_cons tgF_nm]
    rcases hm : mk1 c with _ | d
    · have g : un true (c :: r) = none := by rw [un, hm]
      rw [g]
      rw [hm] at iu
      refine ⟨fun l hl => (by cases hl), fun _ => .inl ?_⟩
      simp (disch := first | omega | (simp <;> omega) | fail) [if_pos, b__law_unpacked_L1, l_u, l_s, l_t, iu]
    · have g : un true (c :: r) = (un false r).map (d :: ·) := by rw [un, hm]
      rw [hm] at iu v
      have v' : valD MKD (.inr (S [c])) = some (.str (S [d])) := v
      have turn : b__law_unpacked_L1 (List.set [o0, some (.fr (.str (S f))), some (.fr (.bl true)), o] 3 (some (.fr (.str (S [c]))))) τ = .ok (.nx [o0, some (.fr (.str (S (f ++ [d])))), some (.fr (.bl false)), some (.fr (.str (S [c])))]) τ := by
        have mm := mk_m
        generalize MKD = M at *
        simp (disch := first | omega | (simp <;> omega) | fail) [if_pos, b__law_unpacked_L1, l_u, l_s, l_t, l_us, l_sl, l_ti, iu, mm, v']
      rw [turn, eTurn_nx, g]
      have ih := lun_loop (o0 := o0) (τ := τ) r false (f ++ [d]) (some (.fr (.str (S [c])))) (by simp; omega)
      refine ⟨fun l hl => ?_, fun z => ih.2 (Option.map_eq_none_iff.mp z)⟩
      obtain ⟨m, hm, rfl⟩ := Option.map_eq_some_iff.mp hl
      obtain ⟨o', e⟩ := ih.1 m hm
      refine ⟨o', ?_⟩
      rw [e]
      simp
  | c :: r, false, f, o, h => by
    simp only [List.length_cons] at h
    rw [List.map_cons, forL_cons tgF_nm]
    by_cases h6 : c = 126
    · subst h6
      have g : un false (126 :: r) = un true r := by rw [un, if_pos rfl]
      have turn : b__law_unpacked_L1 (List.set [o0, some (.fr (.str (S f))), some (.fr (.bl false)), o] 3 (some (.fr (.str (S [126]))))) τ = .ok (.nx [o0, some (.fr (.str (S f))), some (.fr (.bl true)), some (.fr (.str (S [126])))]) τ := by
        simp (disch := first | omega | (simp <;> omega) | fail) [if_pos, b__law_unpacked_L1, l_ti]
      rw [turn, eTurn_nx, g]
      exact lun_loop r true f _ (by omega)
    · have s6 : S [c] ≠ S [126] := fun z => h6 (by have := S_inj.mp z; simpa using this)
      have ib := in_bl c
      by_cases h3 : c = 32 ∨ c = 10
      · have g : un false (c :: r) = none := by rw [un, if_neg h6, if_pos h3]
        rw [g]
        rw [decide_eq_true h3] at ib
        refine ⟨fun l hl => (by cases hl), fun _ => .inl ?_⟩
        simp (disch := first | omega | (simp <;> omega) | fail) [if_pos, b__law_unpacked_L1, l_ti, l_sp, l_nl, s6, ib]
      · have g : un false (c :: r) = (un false r).map (ps c :: ·) := by rw [un, if_neg h6, if_neg h3]
        rw [decide_eq_false h3] at ib
        have v := ps_val c
        have turn : b__law_unpacked_L1 (List.set [o0, some (.fr (.str (S f))), some (.fr (.bl false)), o] 3 (some (.fr (.str (S [c]))))) τ = .ok (.nx [o0, some (.fr (.str (S (f ++ [ps c])))), some (.fr (.bl false)), some (.fr (.str (S [c])))]) τ := by
          have pm := ps_m
          generalize PSD = P at *
          simp (disch := first | omega | (simp <;> omega) | fail) [if_pos, b__law_unpacked_L1, l_ti, l_sp, l_nl, l_us, l_sl, s6, ib, pm, v]
        rw [turn, eTurn_nx, g]
        have ih := lun_loop (o0 := o0) (τ := τ) r false (f ++ [ps c]) (some (.fr (.str (S [c])))) (by simp; omega)
        refine ⟨fun l hl => ?_, fun z => ih.2 (Option.map_eq_none_iff.mp z)⟩
        obtain ⟨m, hm, rfl⟩ := Option.map_eq_some_iff.mp hl
        obtain ⟨o', e⟩ := ih.1 m hm
        refine ⟨o', ?_⟩
        rw [e]
        simp
theorem lun_ok {w : List Nat} (h : w.length ≤ 50000) {τ : TS'} : d__law_unpacked [.fr (.str (S w))] τ = .ok (oS (unL w)) τ := by
  by_cases q1 : w = [126, 101]
  · subst q1
    simp (disch := first | omega | (simp <;> omega) | fail) [if_pos, d__law_unpacked, b__law_unpacked, ev_body, startP, List.replicate, l_e, l_te, unL, oS]
  have s1 : S w ≠ S [126, 101] := fun z => q1 (S_inj.mp z)
  by_cases q2 : w = []
  · subst q2
    simp (disch := first | omega | (simp <;> omega) | fail) [if_pos, d__law_unpacked, b__law_unpacked, b__law_unpacked_1, b__law_unpacked_2, b__law_unpacked_3, ev_body, startP, List.replicate, l_e, l_te, unL, oS, s1, forL_nil]
  have s2 : S w ≠ S [] := fun z => q2 (S_inj.mp z)
  have u : unL w = un false w := by unfold unL; rw [if_neg q1, if_neg q2]
  rw [u]
  have lp := lun_loop (o0 := some (.fr (.str (S w)))) (τ := τ) w false [] none (by simp; omega)
  rcases hu : un false w with _ | l
  · rcases lp.2 hu with e | ⟨g, o', e⟩
    · simp (disch := first | omega | (simp <;> omega) | fail) [if_pos, d__law_unpacked, b__law_unpacked, b__law_unpacked_1, b__law_unpacked_2, b__law_unpacked_3, ev_body, startP, List.replicate, l_e, l_te, oS, s1, s2, e]
    · simp (disch := first | omega | (simp <;> omega) | fail) [if_pos, d__law_unpacked, b__law_unpacked, b__law_unpacked_1, b__law_unpacked_2, b__law_unpacked_3, ev_body, startP, List.replicate, l_e, l_te, oS, s1, s2, e]
  · obtain ⟨o', e⟩ := lp.1 l hu
    rw [List.nil_append] at e
    simp (disch := first | omega | (simp <;> omega) | fail) [if_pos, d__law_unpacked, b__law_unpacked, b__law_unpacked_1, b__law_unpacked_2, b__law_unpacked_3, ev_body, startP, List.replicate, l_e, l_te, oS, s1, s2, e]

/-! telling and refusing -/
theorem unp_str {w : List Nat} (hw : As w) (h : w.length ≤ 50000) {τ : TS'} : d_unpacked [.fr (.str (S w))] τ = match unL w with
    | some l => .ok (.str (S l)) τ
    | none => .ex ⟨"NoText", [("row", .int 0)]⟩ τ := by
  have it : isT "str" "str" = true := by decide
  have t := fun τ => text_in_ok hw h (τ := τ)
  rcases hu : unL w with _ | l
  · rw [hu] at t
    simp (disch := first | omega | (simp <;> omega) | fail) [if_pos, d_unpacked, b_unpacked, b_unpacked_1, b_unpacked_2, b_unpacked_3, ev_body, startP, List.replicate, it, t, oS]
  · rw [hu] at t
    simp (disch := first | omega | (simp <;> omega) | fail) [if_pos, d_unpacked, b_unpacked, b_unpacked_1, b_unpacked_2, b_unpacked_3, ev_body, startP, List.replicate, it, t, oS]
theorem told_yes {w l : List Nat} (hw : As w) (h : w.length ≤ 50000) (hu : unL w = some l) {τ : TS'} : d__law_told [.fr (.str (S w))] τ = .ok (.tup [.str (Str.ofString "told"), .str (S l)]) τ := by
  have t := fun τ => unp_str hw h (τ := τ)
  rw [hu] at t
  simp only at t
  simp (disch := first | omega | (simp <;> omega) | fail) [if_pos, d__law_told, b__law_told, b__law_told_1, b__law_told_2, ev_bodyN, startP, List.replicate, t]
theorem told_no {d : DD} {τ : TS'} (t : ∀ τ, d_unpacked [.fr d] τ = .ex ⟨"NoText", [("row", .int 0)]⟩ τ) : d__law_told [.fr d] τ = .ok (.tup [.str (Str.ofString "refused"), .int 0]) τ := by
  simp (disch := first | omega | (simp <;> omega) | fail) [if_pos, d__law_told, b__law_told, b__law_told_1, b__law_told_2, ev_bodyN, startP, List.replicate, t]
theorem unp_other {d : DD} {τ : TS'} (h : gIsi "str" d = some (.bl false)) : d_unpacked [.fr d] τ = .ex ⟨"NoText", [("row", .int 0)]⟩ τ := by
  simp (disch := first | omega | (simp <;> omega) | fail) [if_pos, d_unpacked, b_unpacked, b_unpacked_1, b_unpacked_2, b_unpacked_3, ev_body, startP, List.replicate, h]

theorem atI_intsD {ns : List Int} {i : Int} (h0 : 0 ≤ i) (h1 : i < ns.length) : ∃ v, atI (ns.map DD.int) i = some (.int v) := by
  obtain ⟨j, rfl⟩ := Int.eq_ofNat_of_zero_le h0
  have hj : j < ns.length := by omega
  exact ⟨ns[j], atI_nat (by rw [List.getElem?_map, List.getElem?_eq_getElem hj] <;> rfl)⟩
/-! the dict tape with a draw that calls itself -/
theorem take_F {F : Fn} {n q : Nat} {m : Int} {t : Tau} (h : Tn n t) (hn : n < 2 ^ 58) (hm : 0 < m) (hmm : m < 1073741824)
    (hF : 1000000 < m → ∀ (n' : Nat) (t' : Tau), Tn n' t' → n' ≤ n + 1 → ∃ r t'', F [.tape, .fr (.int (m.fdiv 1000000 + 1))] (some t') = .ok (.int r) (some t'') ∧ 0 ≤ r ∧ r < 2000000 ∧ Tn (n' + q) t'') :
    ∃ r t', bodyF 6 (b__law_take F) [.tape, .fr (.int m)] (some t) = .ok (.int r) (some t') ∧ 0 ≤ r ∧ r < m ∧ Tn (n + 2 + q) t' := by
  have mods : ∀ x : Int, 0 ≤ x % m ∧ x % m < m := fun x => ⟨Int.emod_nonneg _ (by omega), Int.emod_lt_of_pos _ hm⟩
  have tail : ∀ (T cell : Int) (t1 t0 : Tau), 0 ≤ T ∧ T < 2 ^ 59 → Tn (n + 1) t1 → ∃ r t', eBody (b__law_take_6 F [some .tape, some (.fr (.int m)), none, some (.fr (.int T)), some (.fr (.int cell)), none] (some t1)) (some t0) = .ok (.int r) (some t') ∧ 0 ≤ r ∧ r < m ∧ Tn (n + 2 + q) t' := by
    intro T cell t1 t0 hT T1
    have c1 := Int.emod_nonneg cell (show (2147483587 : Int) ≠ 0 by omega)
    have c2 := Int.emod_lt_of_pos cell (show (0 : Int) < 2147483587 by omega)
    generalize hx : (cell % 2147483587 * 40692 + 7907 * T * T + 104729 * T + 17) % 2147483629 = x
    have x0 : 0 ≤ x := by rw [← hx]; exact Int.emod_nonneg _ (by omega)
    have x1 : x < 2147483629 := by rw [← hx]; exact Int.emod_lt_of_pos _ (by omega)
    generalize hy : (x * x + 48271 * x + 31) % 2147483647 = y
    have y0 : 0 ≤ y := by rw [← hy]; exact Int.emod_nonneg _ (by omega)
    have y1 : y < 2147483647 := by rw [← hy]; exact Int.emod_lt_of_pos _ (by omega)
    have m1 : CMul (cell % 2147483587) 40692 := .inr ⟨by decide, by decide⟩
    have m2 : CMul 7907 T := .inl ⟨by decide, by decide⟩
    have m3 : CMul (7907 * T) T := .inr ⟨by omega, by omega⟩
    have m4 : CMul 104729 T := .inl ⟨by decide, by decide⟩
    have m5 : CMul x x := .inl ⟨by omega, by omega⟩
    have m6 : CMul 48271 x := .inl ⟨by decide, by decide⟩
    have m9 : ∀ z, CDiv z 97 := fun z => ⟨by decide, by decide⟩
    have p6 : CPow 10 6 := by decide
    by_cases hb : (1000000 : Int) < m
    · obtain ⟨r, t2, e, r0, r1, T2⟩ := hF hb _ _ T1 (by omega)
      have dn : CDivN m 1000000 := ⟨by omega, by omega⟩
      have m7 : CMul 1000000 r := .inl ⟨by decide, by decide⟩
      refine ⟨(y / 97 % 1000000 + 1000000 * r) % m, t2, ?_, (mods _).1, (mods _).2, T2.mono (by omega)⟩
      simp [b__law_take_6, b__law_take_7, b__law_take_8, b__law_take_9, m1, m2, m3, m4, m5, m6, m7, m9, p6, hb, hm, hx, hy, dn, e]
    · refine ⟨y / 97 % m, t1, ?_, (mods _).1, (mods _).2, T1.mono (by omega)⟩
      simp [b__law_take_6, b__law_take_7, b__law_take_8, b__law_take_9, m1, m2, m3, m4, m5, m6, m9, p6, hb, hm, hx, hy]
  have five : ∀ (T cell : Int) (t1 t0 : Tau), 0 ≤ T ∧ T < 2 ^ 59 → Tn (n + 1) t1 → ∃ r t', eBody (b__law_take_5 F [some .tape, some (.fr (.int m)), none, some (.fr (.int T)), some (.fr (.int cell)), none] (some t1)) (some t0) = .ok (.int r) (some t') ∧ 0 ≤ r ∧ r < m ∧ Tn (n + 2 + q) t' := by
    intro T cell t1 t0 hT T1
    obtain ⟨r, t2, e, q⟩ := tail T cell t1 t0 hT T1
    have dn : ∀ x, CDivN x m := fun x => ⟨by omega, by omega⟩
    have pw : CPow 10 18 := by decide
    by_cases h1 : T < t1.cells.length
    · by_cases h2 : (1000000000000000000 : Int) ≤ cell
      · refine ⟨(cell - 1000000000000000000) % m, { t1 with left := (cell - 1000000000000000000).fdiv m }, ?_, (mods _).1, (mods _).2, T1.a0, by have := T1.a1; show t1.at' ≤ _; omega, ?_⟩
        · simp [b__law_take_5, h1, h2, dn, pw, hm]
        · show 0 ≤ Int.fdiv _ _
          rw [Int.fdiv_eq_ediv_of_nonneg _ (by omega)]
          exact Int.ediv_nonneg (by omega) (by omega)
      · exact ⟨r, t2, by simp [b__law_take_5, h1, h2, pw, e], q⟩
    · exact ⟨r, t2, by simp [b__law_take_5, h1, e], q⟩
  obtain ⟨h0, h1, h2⟩ := h
  by_cases hl : 0 < t.left
  · have dn : CDivN t.left m := ⟨by omega, by omega⟩
    refine ⟨t.left % m, { t with left := t.left.fdiv m }, by simp [b__law_take, ev_body, startP, List.replicate, hl, hm, dn], (mods _).1, (mods _).2, h0, by show t.at' ≤ _; omega, ?_⟩
    show 0 ≤ t.left.fdiv m
    rw [Int.fdiv_eq_ediv_of_nonneg _ (by omega)]
    exact Int.ediv_nonneg h2 (by omega)
  · have hT : Tn (n + 1) { t with at' := t.at' + 1 } := ⟨by show 0 ≤ t.at' + 1; omega, by show t.at' + 1 ≤ _; omega, h2⟩
    cases hc : t.cells.isEmpty with
    | true =>
      obtain ⟨r, t', e, q⟩ := five t.at' 5 _ t ⟨h0, by omega⟩ hT
      exact ⟨r, t', by simp [b__law_take, b__law_take_1, b__law_take_2, b__law_take_3, b__law_take_4, ev_body, startP, List.replicate, hl, hc, e], q⟩
    | false =>
      have hp : 0 < t.cells.length := by
        cases hh : t.cells with
        | nil => rw [hh] at hc; cases hc
        | cons a b => simp
      obtain ⟨v, hv⟩ := atI_intsD (ns := t.cells) (i := t.at' % t.cells.length) (Int.emod_nonneg _ (by omega)) (Int.emod_lt_of_pos _ (by omega))
      obtain ⟨r, t', e, q⟩ := five t.at' v _ t ⟨h0, by omega⟩ hT
      exact ⟨r, t', by simp [b__law_take, b__law_take_1, b__law_take_2, b__law_take_3, b__law_take_4, ev_body, startP, List.replicate, hl, hc, hp, hv, e], q⟩
theorem take_F0 {F : Fn} {n : Nat} {m : Int} {t : Tau} (h : Tn n t) (hn : n < 2 ^ 58) (hm : 0 < m) (hmm : m ≤ 1000000) : ∃ r t', bodyF 6 (b__law_take F) [.tape, .fr (.int m)] (some t) = .ok (.int r) (some t') ∧ 0 ≤ r ∧ r < m ∧ Tn (n + 2) t' :=
  take_F (q := 0) h hn hm (by omega) fun z => by omega
theorem take_small {n k : Nat} {m : Int} {t : Tau} (h : Tn n t) (hn : n < 2 ^ 58) (hm : 0 < m) (hmm : m ≤ 1000000) : ∃ r t', d__law_take_r (k + 1) [.tape, .fr (.int m)] (some t) = .ok (.int r) (some t') ∧ 0 ≤ r ∧ r < m ∧ Tn (n + 2) t' := by
  obtain ⟨r, t', e, r0, r1, T⟩ := take_F0 (F := d__law_take_r k) h hn hm hmm
  exact ⟨r, t', e, r0, r1, T⟩
theorem draw_ok {n : Nat} {m : Int} {t : Tau} (h : Tn n t) (hn : n < 2 ^ 50) (hm : 0 < m) (hmm : m < 1073741824) : ∃ r t', d__law_take [.tape, .fr (.int m)] (some t) = .ok (.int r) (some t') ∧ 0 ≤ r ∧ r < m ∧ Tn (n + 5) t' := by
  obtain ⟨r, t', e, r0, r1, T⟩ := take_F (F := d__law_take_r 1) (q := 2) h (by omega) hm hmm fun z n' t' T hn' => by
    have e : m.fdiv 1000000 = m / 1000000 := Int.fdiv_eq_ediv_of_nonneg _ (by omega)
    obtain ⟨r, t'', e1, r0, r1, T1⟩ := take_small (k := 0) (m := m.fdiv 1000000 + 1) T (by omega) (by omega) (by omega)
    exact ⟨r, t'', e1, r0, by omega, T1⟩
  exact ⟨r, t', e, r0, r1, T.mono (by omega)⟩

/-! drawn texts -/
def TG : List Nat := (Str.ofString " \n_/~ !\"#$&'()*+,-.:;<=>?\x40[]^`|abcxyzABCXYZ0123456789\\/_~").cps.toList
theorem TG_eq : Str.ofString " \n_/~ !\"#$&'()*+,-.:;<=>?\x40[]^`|abcxyzABCXYZ0123456789\\/_~" = S TG := S_of _
theorem TG_len : TG.length = 57 := by decide +kernel
theorem TG_ok : ∀ c ∈ TG, c = 10 ∨ (32 ≤ c ∧ c ≤ 126) := by decide +kernel
def BG : List Nat := (Str.ofString " \n_/~uste~xA09{}").cps.toList
theorem BG_eq : Str.ofString " \n_/~uste~xA09{}" = S BG := S_of _
theorem BG_len : BG.length = 16 := by decide +kernel
theorem BG_ok : ∀ c ∈ BG, c = 10 ∨ (32 ≤ c ∧ c ≤ 126) := by decide +kernel
theorem sign_get {G : List Nat} {n : Nat} (l : G.length = n) (ok : ∀ c ∈ G, c = 10 ∨ (32 ≤ c ∧ c ≤ 126)) {r : Int} (h0 : 0 ≤ r) (h1 : r < n) : ∃ c, atI G r = some c ∧ (c = 10 ∨ (32 ≤ c ∧ c ≤ 126)) := by
  obtain ⟨v, e, m⟩ := atI_of h0 (by rw [l]; exact h1)
  exact ⟨v, e, ok v m⟩
theorem text_ok {n M : Nat} {t : Tau} (h : Tn n t) (hn : n < 2 ^ 39) (hM : 0 < M) (hM2 : M ≤ 100) : ∃ y t', d__law_text [.tape, .fr (.int (M : Int))] (some t) = .ok (.str (S y)) (some t') ∧ y.length < M ∧ As y ∧ Tn (n + 600) t' := by
  obtain ⟨r1, t1, e1, a1, b1, T1⟩ := draw_ok h (by omega) (m := (M : Int)) (by omega) (by omega)
  have sl := TG_len
  obtain ⟨ys, τ5, e5, ly, py, t5, rfl, T5⟩ := lcL_draw (t := .nm 3) (a := dOp gIxS (dV 2) (dCallN 2 d__law_take [] (dpCons (dpT 0) (dpCons (dpE (dCall (c1 gLenS) (dCons (dV 2) dNil))) dpNil)))) (ρ := [some .tape, some (.fr (.int (M : Int))), some (.fr (.str (S TG))), none])
    (fun y => ∃ c, y = .str (S [c]) ∧ (c = 10 ∨ (32 ≤ c ∧ c ≤ 126))) (fun k τ => ∃ t, τ = some t ∧ Tn (n + 5 + 5 * k) t) (rangeD 0 r1.toNat) 0 (some t1) ⟨t1, rfl, T1.mono (by omega)⟩ (by
      rintro j d τ hj hd ⟨t, rfl, T⟩
      rw [rangeD_len] at hj
      refine ⟨_, tgF_nm, ?_⟩
      obtain ⟨r, t', e, a, b, T'⟩ := draw_ok T (by omega) (m := 57) (by decide) (by decide)
      obtain ⟨c, ec, hc⟩ := sign_get TG_len TG_ok a b
      exact ⟨.str (S [c]), some t', by simp (disch := first | omega | (simp <;> omega) | fail) [if_pos, e, sl, ec, S_one], ⟨c, rfl, hc⟩, t', rfl, T'.mono (by omega)⟩)
  obtain ⟨cs, rfl, hcs⟩ := all_signs py
  rw [List.length_map, rangeD_len] at ly
  rw [rangeD_len, Nat.zero_add] at T5
  have jn := join_signs (cs := cs) (by omega)
  have rg : rgOk 0 r1 := by unfold rgOk; omega
  have te := TG_eq
  refine ⟨cs, t5, ?_, by omega, hcs, T5.mono (by omega)⟩
  simp (disch := first | omega | (simp <;> omega) | fail) [if_pos, d__law_text, b__law_text, b__law_text_1, ev_body, startP, List.replicate, l_e, te, e1, rg, e5, jn]
theorem bent_ok {n : Nat} {t : Tau} {w : List Nat} (h : Tn n t) (hn : n < 2 ^ 39) (hw : As w) (hl : w.length ≤ 20000) : ∃ y t', d__law_bent [.tape, .fr (.str (S w))] (some t) = .ok (.str (S y)) (some t') ∧ y.length ≤ w.length + 1 ∧ As y ∧ Tn (n + 20) t' := by
  obtain ⟨r1, t1, e1, a1, b1, T1⟩ := draw_ok h (by omega) (m := (w.length : Int) + 1) (by omega) (by omega)
  obtain ⟨r2, t2, e2, a2, b2, T2⟩ := draw_ok T1 (by omega) (m := 16) (by decide) (by decide)
  obtain ⟨c, ec, hc⟩ := sign_get BG_len BG_ok a2 b2
  obtain ⟨r3, t3, e3, a3, b3, T3⟩ := draw_ok T2 (by omega) (m := 3) (by decide) (by decide)
  obtain ⟨r4, t4, e4, a4, b4, T4⟩ := draw_ok T3 (by omega) (m := 2) (by decide) (by decide)
  obtain ⟨k, rfl⟩ := Int.eq_ofNat_of_zero_le a1
  have sl := BG_len
  have be := BG_eq
  obtain ⟨z, ez, zl, za⟩ : ∃ z : List Nat, atI [DD.str (S [c]), .str (S [c]), .str (S [])] r3 = some (.str (S z)) ∧ z.length ≤ 1 ∧ As z := by
    have c1 : As [c] := fun x hx => by rw [List.mem_singleton.mp hx]; exact hc
    have c0 : As [] := fun x hx => nomatch hx
    have : r3 = 0 ∨ r3 = 1 ∨ r3 = 2 := by omega
    rcases this with rfl | rfl | rfl
    · exact ⟨[c], by simp, by simp, c1⟩
    · exact ⟨[c], by simp, by simp, c1⟩
    · exact ⟨[], by simp, by simp, c0⟩
  have c1 : cutL w none (some (k : Int)) = w.take k := by rw [cutL_to (by omega)]; rfl
  have c2 : cutL w (some ((k : Int) + r4)) none = w.drop ((k : Int) + r4).toNat := cutL_from (by omega)
  have l1 : (w.take k).length ≤ k := List.length_take_le _ _
  have l2 : (w.drop ((k : Int) + r4).toNat).length = w.length - ((k : Int) + r4).toNat := List.length_drop
  refine ⟨w.take k ++ z ++ w.drop ((k : Int) + r4).toNat, t4, ?_, ?_, (hw.take _ |>.app za).app (hw.drop _), T4.mono (by omega)⟩
  · have l1' : (w.take k).length ≤ 20000 := by omega
    have l2' : (w.drop ((k : Int) + r4).toNat).length ≤ 20000 := by omega
    generalize w.take k = A at *
    generalize w.drop ((k : Int) + r4).toNat = B at *
    simp (disch := first | omega | (simp <;> omega) | fail) [if_pos, d__law_bent, b__law_bent, b__law_bent_1, b__law_bent_2, ev_body, startP, List.replicate, be, l_e, e1, e2, sl, ec, S_one, e3, ez, e4, c1, c2]
  · simp only [List.length_append]; omega

/-! the law -/
def repL (n : Nat) (l : List Nat) : List Nat := (List.replicate n l).flatten
theorem mul_S (l : List Nat) (n : Nat) : Txt.mul (S l) (n : Int) = S (repL n l) := by
  rw [S_of (Txt.mul (S l) (n : Int)), toList_mul, S_l]; rfl
theorem repL_len (n : Nat) (l : List Nat) : (repL n l).length = n * l.length := by
  unfold repL
  rw [List.length_flatten, List.map_replicate, List.sum_replicate_nat]
theorem repL_as {n : Nat} {l : List Nat} (h : As l) : As (repL n l) := fun c hc => by
  unfold repL at hc
  obtain ⟨q, hq, hc⟩ := List.mem_flatten.mp hc
  rw [List.eq_of_mem_replicate hq] at hc
  exact h c hc
theorem said_rb {x : List Nat} {a : PySem.Str} (ha : a.length ≤ 20 ∧ ∀ c ∈ a.cps.toList, c < 1114112) (h : As x) (hl : x.length ≤ 50000) : ∃ z, gRepr (.tup [.str a, .str (S x)]) = some (.str z) :=
  gRepr_ok (Rb.tup (RbA.cons (Rb.str (n := 50000) (Tx.mono ⟨ha.1, ha.2⟩ (by decide))) (RbA.cons (Rb.str (Tx.S hl h.cp)) RbA.nil))) rfl (by decide) (by decide)
theorem ref_rb : ∃ z, gRepr (.tup [.str (Str.ofString "refused"), .int 0]) = some (.str z) :=
  gRepr_ok (Rb.tup (RbA.cons (Rb.str (n := 20) ⟨by decide +kernel, by decide +kernel⟩) (RbA.cons ((Rb.int (i := 0) (by decide)).mono (Nat.le_refl _) (Nat.le_refl _)) RbA.nil))) rfl (by decide) (by decide)
theorem in_sign {c : Nat} {w : List Nat} (h : c ∉ w) : gInC false (.str (S [c])) (.str (S w)) = some (.bl false) := by
  show (match (S [c]).cps.toList with
    | [c] => some (DD.bl (if false then !decide (c ∈ (S w).cps.toList) else decide (c ∈ (S w).cps.toList)))
    | _ => none) = _
  rw [S_l, S_l]
  simp [h]
theorem turn2 {o0 o1 o2 o3 o7 o8 o9 : Option PV} {l y : List Nat} (hl : As l) (ll : l.length ≤ 2000) (hy : As y) (yl : y.length ≤ 10000) {τ : TS'} :
    ∃ q7 q8, b_law_L2 [o0, o1, o2, o3, some (.fr (.str (S l))), some (.fr (.str (S (packL l)))), some (.fr (.str (S y))), o7, o8, o9] τ = .ok (.nx [o0, o1, o2, o3, some (.fr (.str (S l))), some (.fr (.str (S (packL l)))), some (.fr (.str (S y))), q7, q8, o9]) τ := by
  have wl := packL_len l
  have lu := fun τ => lun_ok (w := y) (by omega) (τ := τ)
  have up := fun τ => unp_str (packL_as hl) (by omega) (τ := τ)
  rw [un_packL] at up
  simp only at up
  have pk := fun τ => packed_ok (l := l) (by omega) (τ := τ)
  generalize packL l = w at *
  rcases hu : unL y with _ | x
  · have un := fun τ => unp_str hy (by omega) (τ := τ)
    rw [hu] at un lu
    simp only [oS] at un lu
    have td := fun τ => told_no (τ := τ) un
    obtain ⟨z, hz⟩ := ref_rb
    exact ⟨some (.fr .non), some (.fr (.tup [.str (Str.ofString "refused"), .int 0])), by simp (disch := first | omega | (simp <;> omega) | fail) [if_pos, b_law_L2, b_law_L2_1, b_law_L2_2, lu, td, hz, pickL, pick1, List.filterMap, List.lookup, up, pk]⟩
  · have td := fun τ => told_yes hy (by omega) hu (τ := τ)
    rw [hu] at lu
    simp only [oS] at lu
    obtain ⟨ha, hb⟩ := unL_as hy hu
    obtain ⟨z, hz⟩ := said_rb (x := x) (a := Str.ofString "told") ⟨by decide +kernel, by decide +kernel⟩ ha (by omega)
    exact ⟨some (.fr (.str (S x))), some (.fr (.tup [.str (Str.ofString "told"), .str (S x)])), by simp (disch := first | omega | (simp <;> omega) | fail) [if_pos, b_law_L2, b_law_L2_1, b_law_L2_2, lu, td, hz, pickL, pick1, List.filterMap, List.lookup, up, pk]⟩
theorem turn1 {n : Nat} {t : Tau} {o0 o2 o3 o5 o6 o7 o8 o9 : Option PV} {l : List Nat} (h : Tn n t) (hn : n < 2 ^ 38) (hl : As l) (ll : l.length ≤ 2000) :
    ∃ q5 q6 q7 q8 t', b_law_L1 [o0, some .tape, o2, o3, some (.fr (.str (S l))), o5, o6, o7, o8, o9] (some t) = .ok (.nx [o0, some .tape, o2, o3, some (.fr (.str (S l))), q5, q6, q7, q8, o9]) (some t') ∧ Tn (n + 60) t' := by
  have wl := packL_len l
  have pk := fun τ => packed_ok (l := l) (by omega) (τ := τ)
  have lp := fun τ => lpacked_ok (l := l) (by omega) (τ := τ)
  have td := fun τ => told_yes (packL_as hl) (by omega) (un_packL l) (τ := τ)
  obtain ⟨z, hz⟩ := said_rb (x := l) (a := Str.ofString "told") ⟨by decide +kernel, by decide +kernel⟩ hl (by omega)
  obtain ⟨nb1, nb2⟩ := packL_nb l
  have i1 := in_sign nb1
  have i2 := in_sign nb2
  have ne : S (packL l) ≠ S [] := fun z => packL_ne l (S_inj.mp z)
  obtain ⟨y1, t1, e1, l1, a1, T1⟩ := bent_ok h (by omega) (packL_as hl) (by omega)
  obtain ⟨y2, t2, e2, l2, a2, T2⟩ := bent_ok T1 (by omega) (packL_as hl) (by omega)
  obtain ⟨y3, t3, e3, l3, a3, T3⟩ := bent_ok T2 (by omega) a2 (by omega)
  obtain ⟨p7, p8, u1⟩ := turn2 (o0 := o0) (o1 := some .tape) (o2 := o2) (o3 := o3) (o7 := o7) (o8 := o8) (o9 := o9) hl ll a1 (by omega) (τ := some t3)
  obtain ⟨q7, q8, u2⟩ := turn2 (o0 := o0) (o1 := some .tape) (o2 := o2) (o3 := o3) (o7 := p7) (o8 := p8) (o9 := o9) hl ll a3 (by omega) (τ := some t3)
  generalize packL l = w at *
  refine ⟨some (.fr (.str (S w))), some (.fr (.str (S y3))), q7, q8, t3, ?_, T3.mono (by omega)⟩
  simp (disch := first | omega | (simp <;> omega) | fail) [if_pos, b_law_L1, b_law_L1_1, b_law_L1_2, b_law_L1_3, pk, lp, l_sp, l_nl, l_e, i1, i2, ne, td, hz, e1, e2, e3, forL_nm, forL_nil, u1, u2]
theorem all_strs {P : List Nat → Prop} : ∀ {ys : List DD}, (∀ y ∈ ys, ∃ x, y = .str (S x) ∧ P x) → ∃ ps : List (List Nat), ys = sL ps ∧ ∀ p ∈ ps, P p
  | [], _ => ⟨[], rfl, fun p hp => nomatch hp⟩
  | y :: ys, h => by
    obtain ⟨x, rfl, hx⟩ := h y List.mem_cons_self
    obtain ⟨ps, rfl, hp⟩ := all_strs fun z hz => h z (List.mem_cons_of_mem _ hz)
    exact ⟨x :: ps, rfl, fun p hp' => (List.mem_cons.mp hp').elim (fun e => e ▸ hx) (hp p)⟩
theorem last_turn {o0 o1 o2 o3 o4 o5 o7 o8 o9 : Option PV} {τ : TS'} : ∀ {ds : List DD} (o6 : Option PV), (∀ d ∈ ds, gIsi "str" d = some (.bl false)) →
    lcL (.nm 6) (dTest (dOp (gEq true) (dCall (c1 gRepr) (dCons (dCallN 1 d__law_told [] (dpCons (dpE (dV 6)) dpNil)) dNil)) (dCall (c1 gRepr) (dCons (dTup (dCons (dC (.str "refused")) (dCons (dC (.int 0)) dNil))) dNil)))) (dV 6) [o0, o1, o2, o3, o4, o5, o6, o7, o8, o9] ds τ = .ok [] τ := by
  intro ds o6 h
  obtain ⟨z, hz⟩ := ref_rb
  have := lcL_fmap (t := .nm 6) (A := dTest (dOp (gEq true) (dCall (c1 gRepr) (dCons (dCallN 1 d__law_told [] (dpCons (dpE (dV 6)) dpNil)) dNil)) (dCall (c1 gRepr) (dCons (dTup (dCons (dC (.str "refused")) (dCons (dC (.int 0)) dNil))) dNil)))) (a := dV 6) (ρ := [o0, o1, o2, o3, o4, o5, o6, o7, o8, o9]) (τ := τ) (p := fun _ => false) (f := id) (ds := ds) fun d hd => by
    have td := fun τ => told_no (τ := τ) (fun τ => unp_other (τ := τ) (h d hd))
    exact ⟨_, tgF_nm, by simp (disch := first | omega | (simp <;> omega) | fail) [if_pos, td, hz], fun z => by cases z⟩
  rw [this]
  simp

theorem l_ee : Str.ofString "e" = S [101] := by decide +kernel
theorem law_true (ns : List Int) (hn : ns.length ≤ 63) : ∃ τ, bodyF 10 b_law [.scr ns] none = .ok (.bl true) τ := by
  obtain ⟨ys, τ1, e1, ly, py, t1, rfl, T1⟩ := lcL_draw (t := .nm 3) (a := dCallN 2 d__law_text [] (dpCons (dpT 1) (dpCons (dpE (dC (.int 41))) dpNil))) (ρ := [some (.scr ns), some .tape, none, none, none, none, none, none, none, none])
    (fun y => ∃ x, y = .str (S x) ∧ (As x ∧ x.length ≤ 2000)) (fun k τ => ∃ t, τ = some t ∧ Tn (600 * k) t) (rangeD 0 30) 0 (some ⟨cells0 ns, 0, 0⟩) ⟨_, rfl, Tn.zero⟩ (by
      rintro j d τ hj hd ⟨t, rfl, T⟩
      rw [rangeD_len] at hj
      refine ⟨_, tgF_nm, ?_⟩
      obtain ⟨x, t', e, a, b, T'⟩ := text_ok (M := 41) T (by omega) (by decide) (by decide)
      have e' : d__law_text [.tape, .fr (.int 41)] (some t) = .ok (.str (S x)) (some t') := e
      exact ⟨.str (S x), some t', by simp (disch := first | omega | (simp <;> omega) | fail) [if_pos, e'], ⟨x, rfl, b, by omega⟩, t', rfl, T'.mono (by omega)⟩)
  obtain ⟨ps, rfl, hp⟩ := all_strs py
  rw [rangeD_len] at ly T1
  rw [sL_len] at ly
  rw [Nat.zero_add] at T1
  obtain ⟨p0, pr, rfl⟩ : ∃ p0 pr, ps = p0 :: pr := by
    cases ps with
    | nil => cases ly
    | cons a b => exact ⟨a, b, rfl⟩
  obtain ⟨y, t2, e2, l2, a2, T2⟩ := text_ok (M := 2) T1 (by omega) (by decide) (by decide)
  have e2' : d__law_text [.tape, .fr (.int 2)] (some t1) = .ok (.str (S y)) (some t2) := e2
  have mo : MulOk (S y) 2000 := mulOk_of (by omega) (by omega) (by simp; omega)
  have me : Txt.mul (S y) 2000 = S (repL 2000 y) := mul_S y 2000
  have ml := repL_len 2000 y
  have ma := repL_as (n := 2000) a2
  generalize repL 2000 y = Y at *
  have c0 : ∀ q ∈ ([[], [101], [126, 101], [32], [10]] : List (List Nat)), (∀ c ∈ q, c = 10 ∨ (32 ≤ c ∧ c ≤ 126)) ∧ q.length ≤ 2000 := by decide
  have hq : ∀ q ∈ (p0 :: pr) ++ [[], [101], [126, 101], [32], [10], Y], As q ∧ q.length ≤ 2000 := fun q hq => by
    rcases List.mem_append.mp hq with h | h
    · exact hp q h
    · have : q ∈ ([[], [101], [126, 101], [32], [10]] : List (List Nat)) ∨ q = Y := by simpa [or_assoc] using h
      rcases this with h | rfl
      · exact c0 q h
      · exact ⟨ma, by omega⟩
  have ct : sL (p0 :: pr) ++ [DD.str (S []), .str (S [101]), .str (S [126, 101]), .str (S [32]), .str (S [10]), .str (S Y)] = sL ((p0 :: pr) ++ [[], [101], [126, 101], [32], [10], Y]) := by rw [sL_app]; rfl
  have at0 : atI (sL ((p0 :: pr) ++ [[], [101], [126, 101], [32], [10], Y])) 0 = some (.str (S p0)) := by rw [List.cons_append, sL_cons, atI_0]
  have ql : ((p0 :: pr) ++ [[], [101], [126, 101], [32], [10], Y]).length = 36 := by rw [List.length_append, ly]; rfl
  generalize (p0 :: pr) ++ [[], [101], [126, 101], [32], [10], Y] = qs at *
  obtain ⟨ρ', τ', e, t', q4, q5, q6, q7, q8, hτ, T', rfl⟩ := forL_inv (t := .nm 4) (δ := b_law_L1) (ds := sL qs) (ρ := [some (.scr ns), some .tape, some (.fr (.lst (sL qs))), none, none, none, none, none, none, none]) (τ := some t2)
    (fun i ρ τ => ∃ t q4 q5 q6 q7 q8, τ = some t ∧ Tn (600 * 30 + 600 + 60 * i) t ∧ ρ = [some (.scr ns), some .tape, some (.fr (.lst (sL qs))), none, q4, q5, q6, q7, q8, none])
    ⟨t2, none, none, none, none, none, rfl, T2.mono (by omega), rfl⟩ (by
      rintro i d ρ τ hd ⟨t, q4, q5, q6, q7, q8, rfl, T, rfl⟩
      have hi : i < qs.length := by
        have := (List.getElem?_eq_some_iff.mp hd).1
        rwa [sL_len] at this
      obtain ⟨q, hqm, rfl⟩ : ∃ q ∈ qs, d = .str (S q) := by
        have := List.mem_of_getElem? hd
        unfold sL at this
        obtain ⟨q, hq, rfl⟩ := List.mem_map.mp this
        exact ⟨q, hq, rfl⟩
      obtain ⟨ha, hl⟩ := hq q hqm
      obtain ⟨u5, u6, u7, u8, t', e, T'⟩ := turn1 (o0 := some (.scr ns)) (o2 := some (.fr (.lst (sL qs)))) (o3 := none) (o5 := q5) (o6 := q6) (o7 := q7) (o8 := q8) (o9 := none) T (by omega) ha hl
      exact ⟨_, tgF_nm, _, some t', .inl e, t', _, _, _, _, _, rfl, T'.mono (by omega), rfl⟩)
  rw [hτ] at e
  have rg : rgOk 0 30 := by unfold rgOk; omega
  have p30 : CPow 10 30 := by decide
  have lt := fun o4 o5 o6 o7 o8 o9 => last_turn (o0 := some (.scr ns)) (o1 := some .tape) (o2 := some (.fr (.lst (sL qs)))) (o3 := none) (o4 := o4) (o5 := o5) (o7 := o7) (o8 := o8) (o9 := o9) (τ := some t') (ds := [.non, .bl true, .int 0, .int 7, .lst [], .lst [.str (Str.ofString "a")], .tup [.str (Str.ofString "a")], .dic [], .lst [.str (S p0)], .int (10 ^ 30)]) o6 (by
    intro d hd
    simp only [List.mem_cons, List.not_mem_nil, or_false] at hd
    rcases hd with rfl | rfl | rfl | rfl | rfl | rfl | rfl | rfl | rfl | rfl <;> rfl)
  have lP : (sL (p0 :: pr)).length = 30 := by rw [sL_len, ly]
  generalize sL (p0 :: pr) = P0 at *
  refine ⟨none, ?_⟩
  rw [ev_body]
  show eBody (b_law [some (.scr ns), none, none, none, none, none, none, none, none, none] none) none = _
  generalize hs : sL qs = Q at *
  have pw : (10 : Int) ^ 30 = 1000000000000000000000000000000 := by decide
  rw [pw] at lt
  have eq0 : gEqD (.lst []) (.lst []) = some (.bl true) := eq_nil_ints []
  simp (disch := first | omega | (simp <;> omega) | fail) [if_pos, b_law, b_law_1, b_law_2, b_law_3, b_law_4, rg, e1, l_e, l_ee, l_te, l_sp, l_nl, e2', mo, me, lP, ct, e, at0, p30, pw, lt, eq0]

end Nk79

set_option Elab.async false
set_option linter.all false
set_option maxRecDepth 100000
set_option maxHeartbeats 4000000
namespace Nk79
open PySem L2 Np
abbrev sp_packed (K : PySem.W.Frag) (c : Ad) : Sp := spP (⟨K, c.cm, tkD⟩ : Wp) 1 d_packed
theorem ok_packed {P : Program} {w : World} {K : PySem.W.Frag} {mg : Str → Option Value} {base : Heap} {c : Ad} {f : Addr} {fd : FuncData} (T : Txt K mg c) (F : Fun K "packed" "packed" s_packed f fd)
    {D_PACKED : Addr} (GM_PACKED : mg "PACKED" = some (.ref D_PACKED))
    (GD_PACKED : GDict P w K D_PACKED (tv g_PACKED)) : FnG P w K mg base CX0 1 f fd ps_packed (sp_packed K c) := by
  refine Fun.okG F sc_packed (fun vs H Q E h => ?_) (fun cdv A outer s H vs Q E hgd hr h => ?_)
  · exact h.1
  · refine ⟨_, (pss_one (ps_ret (pe_orTK K (pe_joinK K pe_str (pe_lc (own := [("sign", 1)]) (g := gName 1) (tt := tYes) (by rfl) sc_packed.nd (pi_str (pv 0)) (blkOk_by (own := [("sign", 1)]) (N := nm_packed) (sc := defScope s_packed) (by decide +kernel)) (fun _ _ _ _ _ => (pg_name (i := 1) sc_packed.nd rfl (Or.inl rfl))) (fun _ _ _ _ _ => pts_nil) (fun _ _ _ _ _ => (pe_kget2 GD_PACKED (pe_glob rfl GM_PACKED rfl) (pv 1) (pv 1) ⟨rfl, rfl, rfl, rfl⟩)))) (pe_one (pe_g T.g_EMPTY))))), ?_⟩
    exact body_ok (W := (⟨K, c.cm, tkD⟩ : Wp)) (N := nm_packed) (k := 1) (δ := b_packed)
      ((ds_ret (dn_orU (dn_m1 md_join dn_str (dn_lc (t := (.nm 1)) (vs := [1]) rfl (di_str (dn_v (i := 0))) dt_yes (dn_kget2 (dn_v (i := 1)) (dn_v (i := 1))))) dn_str))) h
abbrev sp_plain_signs (K : PySem.W.Frag) (c : Ad) : Sp := spP (⟨K, c.cm, tkD⟩ : Wp) 1 d_plain_signs
theorem ok_plain_signs {P : Program} {w : World} {K : PySem.W.Frag} {mg : Str → Option Value} {base : Heap} {c : Ad} {f : Addr} {fd : FuncData} (T : Txt K mg c) (F : Fun K "plain_signs" "plain_signs" s_plain_signs f fd)
     : FnG P w K mg base CX0 1 f fd ps_plain_signs (sp_plain_signs K c) := by
  refine Fun.okR F sc_plain_signs (by decide +kernel) (by decide) (fun vs H Q E h => h.1) (fun cdv A outer s H vs Q E hr h => ?_)
  refine ⟨_, (CwR.psst_one (CwR.pst_ret (CwR.pet_replT (CwR.pet_replC (pv 0))))), ?_⟩
  exact body_ok (W := (⟨K, c.cm, tkD⟩ : Wp)) (N := nm_plain_signs) (k := 1) (δ := b_plain_signs)
      ((ds_ret (dn_replC (dn_replC (dn_v (i := 0)))))) h
end Nk79

set_option Elab.async false
set_option linter.all false
set_option maxRecDepth 100000
set_option maxHeartbeats 4000000
namespace Nk79
open PySem L2 Np
abbrev sp_text_in (K : PySem.W.Frag) (c : Ad) : Sp := spP (⟨K, c.cm, tkD⟩ : Wp) 1 d_text_in
theorem ok_text_in {P : Program} {w : World} {K : PySem.W.Frag} {mg : Str → Option Value} {base : Heap} {c : Ad} {f : Addr} {fd : FuncData} (T : Txt K mg c) (F : Fun K "text_in" "text_in" s_text_in f fd)
    {f_plain_signs : Addr} {fd_plain_signs : FuncData} (O_plain_signs : OkG P w K mg base CX0 1 "plain_signs" ps_plain_signs (sp_plain_signs K c) f_plain_signs fd_plain_signs)
    (B_plain_signs : Binds K fd_plain_signs ps_plain_signs [])
    {D_MARKED : Addr} (GM_MARKED : mg "MARKED" = some (.ref D_MARKED))
    (GD_MARKED : GDict P w K D_MARKED (tv g_MARKED)) : FnG P w K mg base CX0 2 f fd ps_text_in (sp_text_in K c) := by
  refine Fun.okG F sc_text_in (fun vs H Q E h => ?_) (fun cdv A outer s H vs Q E hgd hr h => ?_)
  · exact h.1
  · refine ⟨_, (pss_cons (ps_if (pt_cmpR op_eq (pv 0) (pe_g T.g_EMPTY) (nomark _))
      (pss_one (ps_ret pe_str))
      pss_nil)
      (pss_cons (ps_if (PW.pt (pw_or (pt_cmpR op_eq (pv 0) pe_str (nomark _)) (pw_or1 (pt_val (pe_callB (cr_anyK K rfl) (by rfl) T.b_any (by decide +kernel) (pa_cons (pe_lc (own := [("sign", 1)]) (g := gName 1) (tt := tYes) (by rfl) sc_text_in.nd (pi_str (pv 0)) (blkOk_by (own := [("sign", 1)]) (N := nm_text_in) (sc := defScope s_text_in) (by decide +kernel)) (fun _ _ _ _ _ => (pg_name (i := 1) sc_text_in.nd rfl (Or.inl rfl))) (fun _ _ _ _ _ => pts_nil) (fun _ _ _ _ _ => (pe_m0 PySem.F.slot_str_isspace PySem.F.type_str_isspace mt_isspace (pv 1) rfl rfl))) pa_nil))))))
      (pss_one (ps_ret pe_non))
      pss_nil)
      (pss_cons (ps_set (i := 2) sc_text_in.nd rfl (Or.inl rfl) (pe_split (pv 0) pe_str))
      (pss_cons (ps_set (i := 3) sc_text_in.nd rfl (Or.inl rfl) (pe_c (dvs := []) O_plain_signs ⟨[], .nil, B_plain_signs⟩ hgd (hr.mono (by decide)) pass0At (pa_cons (pe_ix (ix_listK K) (pv 2) pe_int (fun _ _ => rfl)) pa_nil)))
      (pss_cons (ps_for PassesOwn.never rfl (pi_listK K (pe_slice (sl_listK K) (pv 2) (po_some pe_int) po_none)) (pg_name (i := 4) sc_text_in.nd rfl (Or.inl rfl))
      (pss_cons (ps_if (pt_cmp (pc_knotin GD_MARKED (pe_slice sl_str (pv 4) po_none (po_some pe_int)) (pe_glob rfl GM_MARKED rfl)) rfl)
      (pss_one (ps_ret pe_non))
      pss_nil)
      (pss_one (ps_aug (i := 3) sc_text_in.nd rfl (Or.inl rfl) (pe_op op_add_str (pe_kget GD_MARKED (pe_glob rfl GM_MARKED rfl) (pe_ix ix_str (pv 4) pe_int (fun _ _ => rfl)) (fun _ _ => rfl)) (pe_c (dvs := []) O_plain_signs ⟨[], .nil, B_plain_signs⟩ hgd (hr.mono (by decide)) pass0At (pa_cons (pe_slice sl_str (pv 4) (po_some pe_int) po_none) pa_nil))) iop_add_str))))
      (pss_one (ps_ret (pv 3)))))))), ?_⟩
    exact body_ok (W := (⟨K, c.cm, tkD⟩ : Wp)) (N := nm_text_in) (k := 1) (δ := b_text_in)
      ((ds_seq (ds_if (dt_test (dn_op od_eq (dn_v (i := 0)) dn_str))
      (ds_ret dn_str)
      ds_next)
      (ds_seq (ds_if (dt_or (dt_test (dn_op od_eq (dn_v (i := 0)) dn_str)) (dt_b (dn_cb cd_anyL (da_cons (dn_lc (t := (.nm 1)) (vs := [1]) rfl (di_str (dn_v (i := 0))) dt_yes (dn_m0 md_isspace (dn_v (i := 1)))) da_nil))))
      (ds_ret dn_non)
      ds_next)
      (ds_seq (ds_set (dn_m1 md_split (dn_v (i := 0)) dn_str))
      (ds_seq (ds_set (dn_callN (k := 1) (F := d_plain_signs) (dv := []) (fun _ _ => .nil) (dps_cons (dp_e (dn_op od_ixL (dn_v (i := 2)) dn_int)) dps_nil)))
      (ds_seq (ds_for (g := (.nm 4)) (di_list (dn_slice sd_list (dn_v (i := 2)) (do_some dn_int) do_none))
      (ds_seq (ds_if (dt_test (dn_kin (dn_slice sd_str (dn_v (i := 4)) do_none (do_some dn_int))))
      (ds_ret dn_non)
      ds_next)
      (ds_aug od_add_str (dn_op od_add_str (dn_kget (dn_op od_ixS (dn_v (i := 4)) dn_int)) (dn_callN (k := 1) (F := d_plain_signs) (dv := []) (fun _ _ => .nil) (dps_cons (dp_e (dn_slice sd_str (dn_v (i := 4)) (do_some dn_int) do_none)) dps_nil))))))
      (ds_ret (dn_v (i := 3))))))))) h
abbrev sp_unpacked (K : PySem.W.Frag) (c : Ad) : Sp := spP (⟨K, c.cm, tkD⟩ : Wp) 1 d_unpacked
theorem ok_unpacked {P : Program} {w : World} {K : PySem.W.Frag} {mg : Str → Option Value} {base : Heap} {c : Ad} {f : Addr} {fd : FuncData} (T : Txt K mg c) (F : Fun K "unpacked" "unpacked" s_unpacked f fd)
    {f_text_in : Addr} {fd_text_in : FuncData} (O_text_in : OkG P w K mg base CX0 2 "text_in" ps_text_in (sp_text_in K c) f_text_in fd_text_in)
    (B_text_in : Binds K fd_text_in ps_text_in [])
    (R_NoText : RaiseC P w K mg base c.NoText "NoText" ps_NoTextD_initD ["row"]) : FnG P w K mg base (L2.CX P w) 4 f fd ps_unpacked (sp_unpacked K c) := by
  obtain ⟨fI_NoText, fdI_NoText, ini_NoText, tin_NoText, I_NoText, BI_NoText⟩ := R_NoText
  refine Fun.okGX F sc_unpacked (fun vs H Q E h => ?_) (fun cdv A outer s H vs Q E hgd hr h => ?_)
  · exact h.1
  · refine ⟨_, (pss_cons (ps_set (i := 1) sc_unpacked.nd rfl (Or.inl rfl) pe_non)
      (pss_cons (ps_if (pt_val (pe_callB (call_isiKK K) (by rfl) T.b_isinstance (by decide +kernel) (pa_cons (pv 0) (pa_cons (pe_bltn (v := .ty "str") rfl T.b_str (by decide +kernel) rfl) pa_nil))))
      (pss_one (ps_set (i := 1) sc_unpacked.nd rfl (Or.inl rfl) (pe_c (dvs := []) O_text_in ⟨[], .nil, B_text_in⟩ hgd (hr.mono (by decide)) pass0At (pa_cons (pv 0) pa_nil))))
      pss_nil)
      (pss_cons (ps_if (pt_cmpR op_isN (pv 1) pe_non (nomark _))
      (pss_one (ps_raise rfl (takes_of rfl rfl rfl rfl) (pmk_oex T.oex_NoText ini_NoText tin_NoText (I_NoText) (hr.mono (by decide)) BI_NoText .nil pass0 rfl T.g_NoText (pa_cons pe_int pa_nil))))
      pss_nil)
      (pss_one (ps_ret (pv 1)))))), ?_⟩
    exact body_ok (W := (⟨K, c.cm, tkD⟩ : Wp)) (N := nm_unpacked) (k := 1) (δ := b_unpacked)
      ((ds_seq (ds_set dn_non)
      (ds_seq (ds_if (dt_b (dn_isi (T := "str") (.inr (.inl rfl)) (dn_v (i := 0))))
      (ds_set (dn_callN (k := 1) (F := d_text_in) (dv := []) (fun _ _ => .nil) (dps_cons (dp_e (dn_v (i := 0))) dps_nil)))
      ds_next)
      (ds_seq (ds_if (dt_test (dn_op od_isN (dn_v (i := 1)) dn_non))
      (ds_raise (cls := "NoText") (names := ["row"]) T.cm_NoText (da_cons dn_int da_nil))
      ds_next)
      (ds_ret (dn_v (i := 1))))))) h
end Nk79

set_option Elab.async false
set_option linter.all false
set_option maxRecDepth 100000
set_option maxHeartbeats 4000000
namespace Nk79
open PySem L2 Np
abbrev sp__law_held (K : PySem.W.Frag) (c : Ad) : Sp := spTape (⟨K, c.cm, tkD⟩ : Wp)
theorem ok__law_held {P : Program} {w : World} {K : PySem.W.Frag} {mg : Str → Option Value} {base : Heap} {c : Ad} {f : Addr} {fd : FuncData} (T : Txt K mg c) (F : Fun K "_law_held" "_law_held" s__law_held f fd)
     : FnG P w K mg base CX0 1 f fd ps__law_held (sp__law_held K c) := by
  refine Fun.okG F sc__law_held (fun vs H Q E h => ?_) (fun cdv A outer s H vs Q E hgd hr h => ?_)
  · obtain ⟨a, ns, rfl, hS, k⟩ := h
    rfl
  · obtain ⟨a, ns, rfl, hS, k⟩ := h
    refine ⟨_, (pss_one (ps_ret (pe_disp (pps_cons pe_str (pe_callTy (call_listK K) (by rfl) T.b_list (by decide +kernel) (pa_cons (pe_slice (sl_listK K) (pv 0) po_none (po_some pe_int)) pa_nil)) (pps_cons pe_str pe_int (pps_cons pe_str pe_int pps_nil))) (by rfl) (by rfl) (fun z => by cases z) (by decide)))), ?_⟩
    refine fun tp ntp => ⟨_, rfl, _, rfl, a, _, rfl, (same_new ntp).seq hS, fun p1 n1 => ?_⟩
    rw [cells0_eq]
    refine ⟨p1, _, rfl, .inl (SqL.of upd_same), fun p2 n2 => ?_⟩
    refine ⟨(same_new n2 _ _ (same_new n1 _ _ upd_same)), [(.inr "cells", .ref p2), (.inr "at", .int 0), (.inr "left", .int 0)], rfl, (by show 3 ≤ 15; decide), ?_⟩
    have e1 : tp ≠ p1 := ne_of_none upd_same n1
    have e2 : tp ≠ p2 := ne_of_none (same_new n1 _ _ upd_same) n2
    have e3 : p1 ≠ p2 := ne_of_none upd_same n2
    have h2 : H p2 = none := by rw [upd_ne e3.symm, upd_ne e2.symm] at n2; exact n2
    have h1 : H p1 = none := by rw [upd_ne e1.symm] at n1; exact n1
    refine k p2 tp _ (fun b u hb => ?_) h2 ntp (fun z => e2 z.symm) ?_ upd_same
    · rw [upd_ne (ne_of_none hb ntp), upd_ne (ne_of_none hb h2), upd_ne (ne_of_none hb h1), upd_ne (ne_of_none hb ntp)]
      exact hb
    · rw [upd_ne (fun z => e2 z.symm)]
      exact upd_same
abbrev sp__law_take (K : PySem.W.Frag) (c : Ad) : Sp := spP (⟨K, c.cm, tkD⟩ : Wp) 2 d__law_take
theorem okr__law_take {P : Program} {w : World} {K : PySem.W.Frag} {mg : Str → Option Value} {base : Heap} {c : Ad} {f : Addr} {fd : FuncData} (T : Txt K mg c) (F : Fun K "_law_take" "_law_take" s__law_take f fd)
    (M__law_take : mg "_law_take" = some (.ref f))
    (KP__law_take : PySem.W.keepIn K (.ref f) = true)
    (B__law_take : Binds K fd ps__law_take []) (n : Nat) : FnG P w K mg base CX0 (1 + n) f fd ps__law_take (spP (⟨K, c.cm, tkD⟩ : Wp) 2 (d__law_take_r n)) := by
  induction n with
  | zero => exact FnG.never fun vs H Q E h => spP_no h
  | succ n ih =>
    have O__law_take : OkG P w K mg base CX0 (1 + n) "_law_take" ps__law_take (spP (⟨K, c.cm, tkD⟩ : Wp) 2 (d__law_take_r n)) f fd := ⟨ih, M__law_take, KP__law_take⟩
    refine Fun.okG F (k := 1 + n) sc__law_take (fun vs H Q E h => ?_) (fun cdv A outer s H vs Q E hgd hr h => ?_)
    · exact h.1
    · refine ⟨_, (pss_cons (ps_if (pt_cmpR op_gt (pe_dget (hu_of' hr) (pv 0) pe_str (fun _ _ => rfl)) pe_int (nomark _))
      (pss_cons (ps_set (i := 2) sc__law_take.nd rfl (Or.inl rfl) (pe_op op_mod (pe_dget (hu_of' hr) (pv 0) pe_str (fun _ _ => rfl)) (pv 1)))
      (pss_cons (ps_dput (hu_of' hr) (pv 0) pe_str (pe_op op_fdivN (pe_dget (hu_of' hr) (pv 0) pe_str (fun _ _ => rfl)) (pv 1)) rfl)
      (pss_one (ps_ret (pv 2)))))
      pss_nil)
      (pss_cons (ps_set (i := 3) sc__law_take.nd rfl (Or.inl rfl) (pe_dget (hu_of' hr) (pv 0) pe_str (fun _ _ => rfl)))
      (pss_cons (ps_dput (hu_of' hr) (pv 0) pe_str (pe_op op_add (pv 3) pe_int) rfl)
      (pss_cons (ps_set (i := 4) sc__law_take.nd rfl (Or.inl rfl) pe_int)
      (pss_cons (ps_if (pt_cmpR (op_neDK K hr.units) (pe_dget (hu_of' hr) (pv 0) pe_str (fun _ _ => rfl)) (pe_lst pa_nil) (nomark _))
      (pss_one (ps_set (i := 4) sc__law_take.nd rfl (Or.inl rfl) (pe_ix (ix_listK K) (pe_dget (hu_of' hr) (pv 0) pe_str (fun _ _ => rfl)) (pe_op op_mod (pv 3) (pe_callB (call_lenK K) (by rfl) T.b_len (by decide +kernel) (pa_cons (pe_dget (hu_of' hr) (pv 0) pe_str (fun _ _ => rfl)) pa_nil))) (fun _ _ => rfl))))
      pss_nil)
      (pss_cons (ps_if (PW.pt (pw_and (pt_cmpR op_lt (pv 3) (pe_callB (call_lenK K) (by rfl) T.b_len (by decide +kernel) (pa_cons (pe_dget (hu_of' hr) (pv 0) pe_str (fun _ _ => rfl)) pa_nil)) (nomark _)) (pw_and1 (pt_cmpR op_ge (pv 4) (pe_op op_pow pe_int pe_int) (nomark _)))))
      (pss_cons (ps_dput (hu_of' hr) (pv 0) pe_str (pe_op op_fdivN (pe_op op_sub (pv 4) (pe_op op_pow pe_int pe_int)) (pv 1)) rfl)
      (pss_one (ps_ret (pe_op op_mod (pe_op op_sub (pv 4) (pe_op op_pow pe_int pe_int)) (pv 1)))))
      pss_nil)
      (pss_cons (ps_set (i := 5) sc__law_take.nd rfl (Or.inl rfl) (pe_op op_mod (pe_op op_add (pe_op op_add (pe_op op_add (pe_op op_mul (pe_op op_mod (pv 4) pe_int) pe_int) (pe_op op_mul (pe_op op_mul pe_int (pv 3)) (pv 3))) (pe_op op_mul pe_int (pv 3))) pe_int) pe_int))
      (pss_cons (ps_set (i := 5) sc__law_take.nd rfl (Or.inl rfl) (pe_op op_mod (pe_op op_add (pe_op op_add (pe_op op_mul (pv 5) (pv 5)) (pe_op op_mul pe_int (pv 5))) pe_int) pe_int))
      (pss_cons (ps_if (pt_cmpR op_gt (pv 1) (pe_op op_pow pe_int pe_int) (nomark _))
      (pss_one (ps_ret (pe_op op_mod (pe_op op_add (pe_op op_mod (pe_op op_fdiv (pv 5) pe_int) (pe_op op_pow pe_int pe_int)) (pe_op op_mul (pe_op op_pow pe_int pe_int) (pe_c (dvs := []) O__law_take ⟨[], .nil, B__law_take⟩ hgd (hr.mono (by omega)) pass0At (pa_cons (pv 0) (pa_cons (pe_op op_add (pe_op op_fdivN (pv 1) (pe_op op_pow pe_int pe_int)) pe_int) pa_nil))))) (pv 1))))
      pss_nil)
      (pss_one (ps_ret (pe_op op_mod (pe_op op_fdiv (pv 5) pe_int) (pv 1))))))))))))), ?_⟩
      exact body_ok (W := (⟨K, c.cm, tkD⟩ : Wp)) (N := nm__law_take) (k := 2) (δ := b__law_take (d__law_take_r n))
        ((ds_seq (ds_if (dt_test (dn_op od_gt (dn_td (i := 0) (k := .left) rfl) dn_int))
      (ds_seq (ds_set (dn_op od_mod (dn_td (i := 0) (k := .left) rfl) (dn_v (i := 1))))
      (ds_seq (ds_tdPut (i := 0) (k := .left) rfl (dn_op od_fdivN (dn_td (i := 0) (k := .left) rfl) (dn_v (i := 1))))
      (ds_ret (dn_v (i := 2)))))
      ds_next)
      (ds_seq (ds_set (dn_td (i := 0) (k := .at') rfl))
      (ds_seq (ds_tdPut (i := 0) (k := .at') rfl (dn_op od_add (dn_v (i := 3)) dn_int))
      (ds_seq (ds_set dn_int)
      (ds_seq (ds_if (dt_test (dn_op od_neD (dn_td (i := 0) (k := .cells) rfl) (dn_lst da_nil)))
      (ds_set (dn_op od_ixL (dn_td (i := 0) (k := .cells) rfl) (dn_op od_mod (dn_v (i := 3)) (dn_cb cd_lenL (da_cons (dn_td (i := 0) (k := .cells) rfl) da_nil)))))
      ds_next)
      (ds_seq (ds_if (dt_and (dt_test (dn_op od_lt (dn_v (i := 3)) (dn_cb cd_lenL (da_cons (dn_td (i := 0) (k := .cells) rfl) da_nil)))) (dt_test (dn_op od_ge (dn_v (i := 4)) (dn_op od_pow dn_int dn_int))))
      (ds_seq (ds_tdPut (i := 0) (k := .left) rfl (dn_op od_fdivN (dn_op od_sub (dn_v (i := 4)) (dn_op od_pow dn_int dn_int)) (dn_v (i := 1))))
      (ds_ret (dn_op od_mod (dn_op od_sub (dn_v (i := 4)) (dn_op od_pow dn_int dn_int)) (dn_v (i := 1)))))
      ds_next)
      (ds_seq (ds_set (dn_op od_mod (dn_op od_add (dn_op od_add (dn_op od_add (dn_op od_mul (dn_op od_mod (dn_v (i := 4)) dn_int) dn_int) (dn_op od_mul (dn_op od_mul dn_int (dn_v (i := 3))) (dn_v (i := 3)))) (dn_op od_mul dn_int (dn_v (i := 3)))) dn_int) dn_int))
      (ds_seq (ds_set (dn_op od_mod (dn_op od_add (dn_op od_add (dn_op od_mul (dn_v (i := 5)) (dn_v (i := 5))) (dn_op od_mul dn_int (dn_v (i := 5)))) dn_int) dn_int))
      (ds_seq (ds_if (dt_test (dn_op od_gt (dn_v (i := 1)) (dn_op od_pow dn_int dn_int)))
      (ds_ret (dn_op od_mod (dn_op od_add (dn_op od_mod (dn_op od_fdiv (dn_v (i := 5)) dn_int) (dn_op od_pow dn_int dn_int)) (dn_op od_mul (dn_op od_pow dn_int dn_int) (dn_callN (k := 2) (F := d__law_take_r n) (dv := []) (fun _ _ => .nil) (dps_cons (dp_t (i := 0)) (dps_cons (dp_e (dn_op od_add (dn_op od_fdivN (dn_v (i := 1)) (dn_op od_pow dn_int dn_int)) dn_int)) dps_nil))))) (dn_v (i := 1))))
      ds_next)
      (ds_ret (dn_op od_mod (dn_op od_fdiv (dn_v (i := 5)) dn_int) (dn_v (i := 1)))))))))))))) h
theorem ok__law_take {P : Program} {w : World} {K : PySem.W.Frag} {mg : Str → Option Value} {base : Heap} {c : Ad} {f : Addr} {fd : FuncData} (T : Txt K mg c) (F : Fun K "_law_take" "_law_take" s__law_take f fd)
    (M__law_take : mg "_law_take" = some (.ref f))
    (KP__law_take : PySem.W.keepIn K (.ref f) = true)
    (B__law_take : Binds K fd ps__law_take []) : FnG P w K mg base CX0 3 f fd ps__law_take (sp__law_take K c) := okr__law_take T F M__law_take KP__law_take B__law_take 2
abbrev sp__law_text (K : PySem.W.Frag) (c : Ad) : Sp := spP (⟨K, c.cm, tkD⟩ : Wp) 2 d__law_text
theorem ok__law_text {P : Program} {w : World} {K : PySem.W.Frag} {mg : Str → Option Value} {base : Heap} {c : Ad} {f : Addr} {fd : FuncData} (T : Txt K mg c) (F : Fun K "_law_text" "_law_text" s__law_text f fd)
    {f__law_take : Addr} {fd__law_take : FuncData} (O__law_take : OkG P w K mg base CX0 3 "_law_take" ps__law_take (sp__law_take K c) f__law_take fd__law_take)
    (B__law_take : Binds K fd__law_take ps__law_take []) : FnG P w K mg base CX0 4 f fd ps__law_text (sp__law_text K c) := by
  refine Fun.okG F sc__law_text (fun vs H Q E h => ?_) (fun cdv A outer s H vs Q E hgd hr h => ?_)
  · exact h.1
  · refine ⟨_, (pss_cons (ps_set (i := 2) sc__law_text.nd rfl (Or.inr rfl) pe_str)
      (pss_one (ps_ret (pe_joinK K pe_str (pe_lc (own := [("_law_k", 3)]) (g := gName 3) (tt := tYes) (by rfl) sc__law_text.nd (pi_range1 (by rfl) T.b_range (pa_cons (pe_c (dvs := []) O__law_take ⟨[], .nil, B__law_take⟩ hgd (hr.mono (by decide)) pass0At (pa_cons (pv 0) (pa_cons (pv 1) pa_nil))) pa_nil)) (blkOk_by (own := [("_law_k", 3)]) (N := nm__law_text) (sc := defScope s__law_text) (by decide +kernel)) (fun _ _ _ _ _ => (pg_name (i := 3) sc__law_text.nd rfl (Or.inl rfl))) (fun _ _ _ _ _ => pts_nil) (fun _ _ _ _ _ => (pe_ix ix_str (pv 2) (pe_c (dvs := []) O__law_take ⟨[], .nil, B__law_take⟩ hgd (hr.mono (by decide)) pass0At (pa_cons (pv 0) (pa_cons (pe_callB call_len_str (by rfl) T.b_len (by decide +kernel) (pa_cons (pv 2) pa_nil)) pa_nil))) (fun _ _ => rfl)))))))), ?_⟩
    exact body_ok (W := (⟨K, c.cm, tkD⟩ : Wp)) (N := nm__law_text) (k := 2) (δ := b__law_text)
      ((ds_seq (ds_set dn_str)
      (ds_ret (dn_m1 md_join dn_str (dn_lc (t := (.nm 3)) (vs := [3]) rfl (di_range1 (da_cons (dn_callN (k := 2) (F := d__law_take) (dv := []) (fun _ _ => .nil) (dps_cons (dp_t (i := 0)) (dps_cons (dp_e (dn_v (i := 1))) dps_nil))) da_nil)) dt_yes (dn_op od_ixS (dn_v (i := 2)) (dn_callN (k := 2) (F := d__law_take) (dv := []) (fun _ _ => .nil) (dps_cons (dp_t (i := 0)) (dps_cons (dp_e (dn_cb cd_lenS (da_cons (dn_v (i := 2)) da_nil))) dps_nil))))))))) h
end Nk79

set_option Elab.async false
set_option linter.all false
set_option maxRecDepth 100000
set_option maxHeartbeats 4000000
namespace Nk79
open PySem L2 Np
abbrev sp__law_packed (K : PySem.W.Frag) (c : Ad) : Sp := spP (⟨K, c.cm, tkD⟩ : Wp) 1 d__law_packed
theorem ok__law_packed {P : Program} {w : World} {K : PySem.W.Frag} {mg : Str → Option Value} {base : Heap} {c : Ad} {f : Addr} {fd : FuncData} (T : Txt K mg c) (F : Fun K "_law_packed" "_law_packed" s__law_packed f fd)
     : FnG P w K mg base CX0 1 f fd ps__law_packed (sp__law_packed K c) := by
  refine Fun.okG F sc__law_packed (fun vs H Q E h => ?_) (fun cdv A outer s H vs Q E hgd hr h => ?_)
  · exact h.1
  · refine ⟨_, (pss_cons (ps_set (i := 1) sc__law_packed.nd rfl (Or.inr rfl) (pe_disp (pps_cons pe_str pe_str (pps_cons pe_str pe_str (pps_cons pe_str pe_str (pps_cons pe_str pe_str (pps_cons pe_str pe_str pps_nil))))) rfl rfl (fun z => (nomatch z)) (by show 5 ≤ 15; decide)))
      (pss_one (ps_ret (pe_orTK K (pe_joinK K pe_str (pe_lc (own := [("_law_sign", 2)]) (g := gName 2) (tt := tYes) (by rfl) sc__law_packed.nd (pi_str (pv 0)) (blkOk_by (own := [("_law_sign", 2)]) (N := nm__law_packed) (sc := defScope s__law_packed) (by decide +kernel)) (fun _ _ _ _ _ => (pg_name (i := 2) sc__law_packed.nd rfl (Or.inl rfl))) (fun _ _ _ _ _ => pts_nil) (fun _ _ _ _ _ => (pe_dget2 (hu_of' hr) (pv 1) (pv 2) (pv 2) ⟨rfl, rfl, rfl, rfl⟩)))) (pe_one pe_str))))), ?_⟩
    exact body_ok (W := (⟨K, c.cm, tkD⟩ : Wp)) (N := nm__law_packed) (k := 1) (δ := b__law_packed)
      ((ds_seq (ds_set (dn_disp (.cons dn_str dn_str (.cons dn_str dn_str (.cons dn_str dn_str (.cons dn_str dn_str (.cons dn_str dn_str .nil)))))))
      (ds_ret (dn_orU (dn_m1 md_join dn_str (dn_lc (t := (.nm 2)) (vs := [2]) rfl (di_str (dn_v (i := 0))) dt_yes (dn_dget2 (dn_v (i := 1)) (dn_v (i := 2)) (dn_v (i := 2))))) dn_str)))) h
abbrev sp__law_unpacked (K : PySem.W.Frag) (c : Ad) : Sp := spP (⟨K, c.cm, tkD⟩ : Wp) 1 d__law_unpacked
theorem ok__law_unpacked {P : Program} {w : World} {K : PySem.W.Frag} {mg : Str → Option Value} {base : Heap} {c : Ad} {f : Addr} {fd : FuncData} (T : Txt K mg c) (F : Fun K "_law_unpacked" "_law_unpacked" s__law_unpacked f fd)
     : FnG P w K mg base CX0 1 f fd ps__law_unpacked (sp__law_unpacked K c) := by
  refine Fun.okG F sc__law_unpacked (fun vs H Q E h => ?_) (fun cdv A outer s H vs Q E hgd hr h => ?_)
  · exact h.1
  · refine ⟨_, (pss_cons (ps_if (pt_cmpR op_eq (pv 0) pe_str (nomark _))
      (pss_one (ps_ret pe_str))
      pss_nil)
      (pss_cons (ps_asg (pe_tup (pa_cons pe_str (pa_cons pe_bl pa_nil))) (pg_tupK (n := 2) K (by rfl) (pgs_cons (pg_name (i := 1) sc__law_unpacked.nd rfl (Or.inl rfl)) (pgs_cons (pg_name (i := 2) sc__law_unpacked.nd rfl (Or.inl rfl)) pgs_nil))))
      (pss_cons (ps_for PassesOwn.never rfl (pi_str (pv 0)) (pg_name (i := 3) sc__law_unpacked.nd rfl (Or.inl rfl))
      (pss_one (ps_if (pt_val (pv 2))
      (pss_cons (ps_if (pt_cmpR (op_notIn_seqK K) (pv 3) (pe_tup (pa_cons pe_str (pa_cons pe_str (pa_cons pe_str pa_nil)))) (by rfl))
      (pss_one (ps_ret pe_non))
      pss_nil)
      (pss_cons (ps_set (i := 1) sc__law_unpacked.nd rfl (Or.inl rfl) (pe_op op_add_str (pv 1) (pe_dget (hu_of' hr) (pe_disp (pps_cons pe_str pe_str (pps_cons pe_str pe_str (pps_cons pe_str pe_str pps_nil))) rfl rfl (fun z => (nomatch z)) (by show 3 ≤ 15; decide)) (pv 3) (fun _ _ => rfl))))
      (pss_one (ps_set (i := 2) sc__law_unpacked.nd rfl (Or.inl rfl) pe_bl))))
      (pss_one (ps_if (pt_cmpR op_eq (pv 3) pe_str (nomark _))
      (pss_one (ps_set (i := 2) sc__law_unpacked.nd rfl (Or.inl rfl) pe_bl))
      (pss_one (ps_if (pt_cmpR (op_in_seqK K) (pv 3) (pe_tup (pa_cons pe_str (pa_cons pe_str pa_nil))) (by rfl))
      (pss_one (ps_ret pe_non))
      (pss_one (ps_set (i := 1) sc__law_unpacked.nd rfl (Or.inl rfl) (pe_op op_add_str (pv 1) (pe_dget2 (hu_of' hr) (pe_disp (pps_cons pe_str pe_str (pps_cons pe_str pe_str pps_nil)) rfl rfl (fun z => (nomatch z)) (by show 2 ≤ 15; decide)) (pv 3) (pv 3) ⟨rfl, rfl, rfl, rfl⟩)))))))))))
      (pss_one (ps_ret (pe_ifExp (PW.pt (pw_or (pt_val (pv 2)) (pw_or1 (pt_cmpR op_eq (pv 0) pe_str (nomark _))))) pe_non (pv 1))))))), ?_⟩
    exact body_ok (W := (⟨K, c.cm, tkD⟩ : Wp)) (N := nm__law_unpacked) (k := 1) (δ := b__law_unpacked)
      ((ds_seq (ds_if (dt_test (dn_op od_eq (dn_v (i := 0)) dn_str))
      (ds_ret dn_str)
      ds_next)
      (ds_seq (ds_asgT (g := (.tp [(.nm 1), (.nm 2)])) (dn_tup (da_cons dn_str (da_cons dn_bl da_nil))))
      (ds_seq (ds_for (g := (.nm 3)) (di_str (dn_v (i := 0)))
      (ds_if (dt_b (dn_v (i := 2)))
      (ds_seq (ds_if (dt_test (dn_op od_in_seq (dn_v (i := 3)) (dn_tup (da_cons dn_str (da_cons dn_str (da_cons dn_str da_nil))))))
      (ds_ret dn_non)
      ds_next)
      (ds_seq (ds_set (dn_op od_add_str (dn_v (i := 1)) (dn_dget (dn_disp (.cons dn_str dn_str (.cons dn_str dn_str (.cons dn_str dn_str .nil)))) (dn_v (i := 3)))))
      (ds_set dn_bl)))
      (ds_if (dt_test (dn_op od_eq (dn_v (i := 3)) dn_str))
      (ds_set dn_bl)
      (ds_if (dt_test (dn_op od_in_seq (dn_v (i := 3)) (dn_tup (da_cons dn_str (da_cons dn_str da_nil)))))
      (ds_ret dn_non)
      (ds_set (dn_op od_add_str (dn_v (i := 1)) (dn_dget2 (dn_disp (.cons dn_str dn_str (.cons dn_str dn_str .nil))) (dn_v (i := 3)) (dn_v (i := 3)))))))))
      (ds_ret (dn_if (dt_or (dt_b (dn_v (i := 2))) (dt_test (dn_op od_eq (dn_v (i := 0)) dn_str))) dn_non (dn_v (i := 1)))))))) h
end Nk79

set_option Elab.async false
set_option linter.all false
set_option maxRecDepth 100000
set_option maxHeartbeats 4000000
namespace Nk79
open PySem L2 Np
abbrev sp__law_told (K : PySem.W.Frag) (c : Ad) : Sp := spP (⟨K, c.cm, tkD⟩ : Wp) 1 d__law_told
theorem ok__law_told {P : Program} {w : World} {K : PySem.W.Frag} {mg : Str → Option Value} {base : Heap} {c : Ad} {f : Addr} {fd : FuncData} (T : Txt K mg c) (F : Fun K "_law_told" "_law_told" s__law_told f fd)
    {f_unpacked : Addr} {fd_unpacked : FuncData} (O_unpacked : OkG P w K mg base (L2.CX P w) 4 "unpacked" ps_unpacked (sp_unpacked K c) f_unpacked fd_unpacked)
    (B_unpacked : Binds K fd_unpacked ps_unpacked []) : FnG P w K mg base CX0 5 f fd ps__law_told (sp__law_told K c) := by
  refine Fun.okG F sc__law_told (fun vs H Q E h => ?_) (fun cdv A outer s H vs Q E hgd hr h => ?_)
  · exact h.1
  · refine ⟨_, (pss_cons (ps_asg (pe_tup (pa_cons pe_non (pa_cons pe_non pa_nil))) (pg_tupK (n := 2) K (by rfl) (pgs_cons (pg_name (i := 1) sc__law_told.nd rfl (Or.inl rfl)) (pgs_cons (pg_name (i := 2) sc__law_told.nd rfl (Or.inl rfl)) pgs_nil))))
      (pss_cons (ps_try_trk (i := 3) rfl rfl rfl sc__law_told.nd rfl rfl ⟨rfl, by decide, .inl T.g_NightError⟩ takes0
      (fun W pn xe tk po => (pss_one (ps_set (i := 1) sc__law_told.nd rfl (Or.inl rfl) (pe_c (dvs := []) O_unpacked ⟨[], .nil, B_unpacked⟩ hgd (hr.mono (by decide)) (passAt tk) (pa_cons (pv 0) pa_nil)))))
      (fun _ _ => (pss_one (ps_if (PW.pt (pw_and (pt_val (pe_callB (call_isX K) (by rfl) T.b_isinstance (by decide +kernel) (pa_cons (pv 3) (pa_cons (pe_glob (v := .ref c.NoText) rfl T.g_NoText rfl) pa_nil)))) (pw_and (pt_val (pe_callB (call_isX K) (by rfl) T.b_isinstance (by decide +kernel) (pa_cons (pv 3) (pa_cons (pe_bltn (v := .ty "ValueError") rfl T.b_ValueError (by decide +kernel) rfl) pa_nil)))) (pw_and1 (pt_not (pt_val (pe_callB (call_isXT K) (by rfl) T.b_isinstance (by decide +kernel) (pa_cons (pv 3) (pa_cons (pe_tup (pa_cons (pe_glob (v := .ref c.NoCopy) rfl T.g_NoCopy rfl) (pa_cons (pe_glob (v := .ref c.NoDeed) rfl T.g_NoDeed rfl) (pa_cons (pe_glob (v := .ref c.NoRow) rfl T.g_NoRow rfl) pa_nil)))) pa_nil)))))))))
      (pss_one (ps_set (i := 2) sc__law_told.nd rfl (Or.inl rfl) (pe_fx K (pv 3))))
      (pss_one (ps_set (i := 2) sc__law_told.nd rfl (Or.inl rfl) pe_str))))))
      (pss_one (ps_ret (pe_ifExp (pt_cmpR op_isN (pv 2) pe_non (nomark _)) (pe_tup (pa_cons pe_str (pa_cons (pv 1) pa_nil))) (pe_tup (pa_cons pe_str (pa_cons (pv 2) pa_nil)))))))), ?_⟩
    exact body_okN (W := (⟨K, c.cm, tkD⟩ : Wp)) (N := nm__law_told) (k := 1) (δ := b__law_told)
      ((ds_seq (ds_asgT (g := (.tp [(.nm 1), (.nm 2)])) (dn_tup (da_cons dn_non (da_cons dn_non da_nil))))
      (ds_seq (ds_tryH (i := 3) (exm := (tb "NoText" true tb0)) (tb_ok (by dsimp only; rw [T.cm_NoText]; exact T.exm_NoText_NightError) tb0_ok) (fun Wz => (ds_set (dn_call (k := 1) (F := d_unpacked) (dv := []) (fun _ _ => .nil) (dps_cons (dp_e (dn_v (i := 0))) dps_nil)))) (ds_if (dt_and (dt_b (dn_isX (kit := (tb "NoText" true tb0)) (.own _) (tb_ok ⟨by dsimp only; rw [T.cm_NoText]; exact T.exc_NoText, by dsimp only; rw [T.cm_NoText]; exact T.kit_NoText_NoText⟩ tb0_ok) (dn_v (i := 3)))) (dt_and (dt_b (dn_isX (kit := (tb "NoText" true tb0)) (.ty _) (tb_ok ⟨by dsimp only; rw [T.cm_NoText]; exact T.exc_NoText, by dsimp only; rw [T.cm_NoText]; exact T.kit_NoText_ValueError⟩ tb0_ok) (dn_v (i := 3)))) (dt_not (dt_b (dn_isXT (kit := (tb "NoText" false tb0)) (cs := [.ref c.NoCopy, .ref c.NoDeed, .ref c.NoRow]) (.cons (.own _) (.cons (.own _) (.cons (.own _) .nil))) (by show 3 ≤ 1000; decide) (tb_ok ⟨by dsimp only; rw [T.cm_NoText]; exact T.exc_NoText, by dsimp only; rw [T.cm_NoText]; unfold PySem.W.kitAny PySem.W.kitAny PySem.W.kitAny PySem.W.kitAny; rw [T.kit_NoText_NoCopy, T.kit_NoText_NoDeed, T.kit_NoText_NoRow]⟩ tb0_ok) (dn_v (i := 3)))))))
      (ds_set (dn_fx (ok := (fun (s : PySem.Str) => decide (s ∈ (["NoText"] : List PySem.Str)))) (fun s h => by have h := of_decide_eq_true h; simp only [List.mem_cons, List.not_mem_nil, or_false] at h; subst h <;> first | exact ⟨by dsimp only; rw [T.cm_NoText]; exact T.exc_NoText, by dsimp only; rw [T.cm_NoText]; exact T.no_NoText_row⟩) (dn_v (i := 3))))
      (ds_set dn_str)))
      (ds_ret (dn_if (dt_test (dn_op od_isN (dn_v (i := 2)) dn_non)) (dn_tup (da_cons dn_str (da_cons (dn_v (i := 1)) da_nil))) (dn_tup (da_cons dn_str (da_cons (dn_v (i := 2)) da_nil)))))))) h
abbrev sp__law_bent (K : PySem.W.Frag) (c : Ad) : Sp := spP (⟨K, c.cm, tkD⟩ : Wp) 2 d__law_bent
theorem ok__law_bent {P : Program} {w : World} {K : PySem.W.Frag} {mg : Str → Option Value} {base : Heap} {c : Ad} {f : Addr} {fd : FuncData} (T : Txt K mg c) (F : Fun K "_law_bent" "_law_bent" s__law_bent f fd)
    {f__law_take : Addr} {fd__law_take : FuncData} (O__law_take : OkG P w K mg base CX0 3 "_law_take" ps__law_take (sp__law_take K c) f__law_take fd__law_take)
    (B__law_take : Binds K fd__law_take ps__law_take []) : FnG P w K mg base CX0 4 f fd ps__law_bent (sp__law_bent K c) := by
  refine Fun.okG F sc__law_bent (fun vs H Q E h => ?_) (fun cdv A outer s H vs Q E hgd hr h => ?_)
  · exact h.1
  · refine ⟨_, (pss_cons (ps_set (i := 2) sc__law_bent.nd rfl (Or.inl rfl) pe_str)
      (pss_cons (ps_par (i := 3) (j := 4) (by rfl) sc__law_bent.nd rfl rfl (by decide) rfl rfl (pa_cons (pe_c (dvs := []) O__law_take ⟨[], .nil, B__law_take⟩ hgd (hr.mono (by decide)) pass0At (pa_cons (pv 0) (pa_cons (pe_op op_add (pe_callB call_len_str (by rfl) T.b_len (by decide +kernel) (pa_cons (pv 1) pa_nil)) pe_int) pa_nil))) (pa_cons (pe_ix ix_str (pv 2) (pe_c (dvs := []) O__law_take ⟨[], .nil, B__law_take⟩ hgd (hr.mono (by decide)) pass0At (pa_cons (pv 0) (pa_cons (pe_callB call_len_str (by rfl) T.b_len (by decide +kernel) (pa_cons (pv 2) pa_nil)) pa_nil))) (fun _ _ => rfl)) pa_nil)) (by rfl))
      (pss_one (ps_ret (pe_op op_add_str (pe_op op_add_str (pe_slice sl_str (pv 1) po_none (po_some (pv 3))) (pe_ix (ix_listK K) (pe_lst (pa_cons (pv 4) (pa_cons (pv 4) (pa_cons pe_str pa_nil)))) (pe_c (dvs := []) O__law_take ⟨[], .nil, B__law_take⟩ hgd (hr.mono (by decide)) pass0At (pa_cons (pv 0) (pa_cons pe_int pa_nil))) (fun _ _ => rfl))) (pe_slice sl_str (pv 1) (po_some (pe_op op_add (pv 3) (pe_c (dvs := []) O__law_take ⟨[], .nil, B__law_take⟩ hgd (hr.mono (by decide)) pass0At (pa_cons (pv 0) (pa_cons pe_int pa_nil))))) po_none)))))), ?_⟩
    exact body_ok (W := (⟨K, c.cm, tkD⟩ : Wp)) (N := nm__law_bent) (k := 2) (δ := b__law_bent)
      ((ds_seq (ds_set dn_str)
      (ds_seq (ds_par (da_cons (dn_callN (k := 2) (F := d__law_take) (dv := []) (fun _ _ => .nil) (dps_cons (dp_t (i := 0)) (dps_cons (dp_e (dn_op od_add (dn_cb cd_lenS (da_cons (dn_v (i := 1)) da_nil)) dn_int)) dps_nil))) (da_cons (dn_op od_ixS (dn_v (i := 2)) (dn_callN (k := 2) (F := d__law_take) (dv := []) (fun _ _ => .nil) (dps_cons (dp_t (i := 0)) (dps_cons (dp_e (dn_cb cd_lenS (da_cons (dn_v (i := 2)) da_nil))) dps_nil)))) da_nil)))
      (ds_ret (dn_op od_add_str (dn_op od_add_str (dn_slice sd_str (dn_v (i := 1)) do_none (do_some (dn_v (i := 3)))) (dn_op od_ixL (dn_lst (da_cons (dn_v (i := 4)) (da_cons (dn_v (i := 4)) (da_cons dn_str da_nil)))) (dn_callN (k := 2) (F := d__law_take) (dv := []) (fun _ _ => .nil) (dps_cons (dp_t (i := 0)) (dps_cons (dp_e dn_int) dps_nil))))) (dn_slice sd_str (dn_v (i := 1)) (do_some (dn_op od_add (dn_v (i := 3)) (dn_callN (k := 2) (F := d__law_take) (dv := []) (fun _ _ => .nil) (dps_cons (dp_t (i := 0)) (dps_cons (dp_e dn_int) dps_nil))))) do_none)))))) h
end Nk79

set_option Elab.async false
set_option linter.all false
set_option maxRecDepth 100000
set_option maxHeartbeats 4000000
namespace Nk79
open PySem L2 Np
abbrev sp_law (K : PySem.W.Frag) (c : Ad) : Sp := spL K
theorem ok_law {P : Program} {w : World} {K : PySem.W.Frag} {mg : Str → Option Value} {base : Heap} {c : Ad} {f : Addr} {fd : FuncData} (T : Txt K mg c) (F : Fun K "law" "law" s_law f fd)
    {f__law_held : Addr} {fd__law_held : FuncData} (O__law_held : OkG P w K mg base CX0 1 "_law_held" ps__law_held (sp__law_held K c) f__law_held fd__law_held)
    (B__law_held : Binds K fd__law_held ps__law_held [])
    {f_packed : Addr} {fd_packed : FuncData} (O_packed : OkG P w K mg base CX0 1 "packed" ps_packed (sp_packed K c) f_packed fd_packed)
    (B_packed : Binds K fd_packed ps_packed [])
    (KB_packed_0_text : KB K fd_packed ps_packed 0 ["text"] (pickL [] [.z 0]))
    {f__law_text : Addr} {fd__law_text : FuncData} (O__law_text : OkG P w K mg base CX0 4 "_law_text" ps__law_text (sp__law_text K c) f__law_text fd__law_text)
    (B__law_text : Binds K fd__law_text ps__law_text [])
    {f__law_bent : Addr} {fd__law_bent : FuncData} (O__law_bent : OkG P w K mg base CX0 4 "_law_bent" ps__law_bent (sp__law_bent K c) f__law_bent fd__law_bent)
    (B__law_bent : Binds K fd__law_bent ps__law_bent [])
    {f__law_unpacked : Addr} {fd__law_unpacked : FuncData} (O__law_unpacked : OkG P w K mg base CX0 1 "_law_unpacked" ps__law_unpacked (sp__law_unpacked K c) f__law_unpacked fd__law_unpacked)
    (B__law_unpacked : Binds K fd__law_unpacked ps__law_unpacked [])
    {f__law_packed : Addr} {fd__law_packed : FuncData} (O__law_packed : OkG P w K mg base CX0 1 "_law_packed" ps__law_packed (sp__law_packed K c) f__law_packed fd__law_packed)
    (B__law_packed : Binds K fd__law_packed ps__law_packed [])
    {f__law_told : Addr} {fd__law_told : FuncData} (O__law_told : OkG P w K mg base CX0 5 "_law_told" ps__law_told (sp__law_told K c) f__law_told fd__law_told)
    (B__law_told : Binds K fd__law_told ps__law_told [])
    {f_unpacked : Addr} {fd_unpacked : FuncData} (O_unpacked : OkG P w K mg base (L2.CX P w) 4 "unpacked" ps_unpacked (sp_unpacked K c) f_unpacked fd_unpacked)
    (KB_unpacked_0_text : KB K fd_unpacked ps_unpacked 0 ["text"] (pickL [] [.z 0])) : FnG P w K mg base CX0 6 f fd ps_law (sp_law K c) := by
  refine Fun.okG F sc_law (fun vs H Q E h => ?_) (fun cdv A outer s H vs Q E hgd hr h => ?_)
  · obtain ⟨a, ns, rfl, _⟩ := h
    rfl
  · refine ⟨_, (pss_cons (ps_set (i := 1) sc_law.nd rfl (Or.inr rfl) (pe_c (dvs := []) O__law_held ⟨[], .nil, B__law_held⟩ hgd (hr.mono (by decide)) pass0At (pa_cons (pv 0) pa_nil)))
      (pss_cons (ps_set (i := 2) sc_law.nd rfl (Or.inl rfl) (pe_op op_cat (pe_lc (own := [("_law_k", 3)]) (g := gName 3) (tt := tYes) (by rfl) sc_law.nd (pi_range1 (by rfl) T.b_range (pa_cons pe_int pa_nil)) (blkOk_by (own := [("_law_k", 3)]) (N := nm_law) (sc := defScope s_law) (by decide +kernel)) (fun _ _ _ _ _ => (pg_name (i := 3) sc_law.nd rfl (Or.inl rfl))) (fun _ _ _ _ _ => pts_nil) (fun _ _ _ _ _ => (pe_c (dvs := []) O__law_text ⟨[], .nil, B__law_text⟩ hgd (hr.mono (by decide)) pass0At (pa_cons (pv 1) (pa_cons pe_int pa_nil))))) (pe_lst (pa_cons pe_str (pa_cons pe_str (pa_cons pe_str (pa_cons pe_str (pa_cons pe_str (pa_cons (pe_op op_mulS (pe_c (dvs := []) O__law_text ⟨[], .nil, B__law_text⟩ hgd (hr.mono (by decide)) pass0At (pa_cons (pv 1) (pa_cons pe_int pa_nil))) pe_int) pa_nil)))))))))
      (pss_cons (ps_for PassesOwn.never rfl (pi_listK K (pv 2)) (pg_name (i := 4) sc_law.nd rfl (Or.inl rfl))
      (pss_cons (ps_set (i := 5) sc_law.nd rfl (Or.inl rfl) (pe_c (dvs := []) O_packed ⟨[], .nil, B_packed⟩ hgd (hr.mono (by decide)) pass0At (pa_cons (pv 4) pa_nil)))
      (pss_cons (ps_if (PW.pt (pw_or (pt_cmpR op_ne (pv 5) (pe_c (dvs := []) O__law_packed ⟨[], .nil, B__law_packed⟩ hgd (hr.mono (by decide)) pass0At (pa_cons (pv 4) pa_nil)) (nomark _)) (pw_or (pt_cmpR op_in_sign pe_str (pv 5) rfl) (pw_or (pt_cmpR op_in_sign pe_str (pv 5) rfl) (pw_or1 (pt_cmpR op_eq (pv 5) pe_str (nomark _)))))))
      (pss_one (ps_ret pe_bl))
      pss_nil)
      (pss_cons (ps_if (pt_cmpR op_ne (pe_callB (call_reprD K hgd (un130 hr)) (by rfl) T.b_repr (by decide +kernel) (pa_cons (pe_c (dvs := []) O__law_told ⟨[], .nil, B__law_told⟩ hgd (hr.mono (by decide)) pass0At (pa_cons (pv 5) pa_nil)) pa_nil)) (pe_callB (call_reprD K hgd (un130 hr)) (by rfl) T.b_repr (by decide +kernel) (pa_cons (pe_tup (pa_cons pe_str (pa_cons (pv 4) pa_nil))) pa_nil)) (nomark _))
      (pss_one (ps_ret pe_bl))
      pss_nil)
      (pss_one (ps_for PassesOwn.never rfl (pi_tupK K (pe_tup (pa_cons (pe_c (dvs := []) O__law_bent ⟨[], .nil, B__law_bent⟩ hgd (hr.mono (by decide)) pass0At (pa_cons (pv 1) (pa_cons (pv 5) pa_nil))) (pa_cons (pe_c (dvs := []) O__law_bent ⟨[], .nil, B__law_bent⟩ hgd (hr.mono (by decide)) pass0At (pa_cons (pv 1) (pa_cons (pe_c (dvs := []) O__law_bent ⟨[], .nil, B__law_bent⟩ hgd (hr.mono (by decide)) pass0At (pa_cons (pv 1) (pa_cons (pv 5) pa_nil))) pa_nil))) pa_nil)))) (pg_name (i := 6) sc_law.nd rfl (Or.inl rfl))
      (pss_cons (ps_set (i := 7) sc_law.nd rfl (Or.inl rfl) (pe_c (dvs := []) O__law_unpacked ⟨[], .nil, B__law_unpacked⟩ hgd (hr.mono (by decide)) pass0At (pa_cons (pv 6) pa_nil)))
      (pss_cons (ps_set (i := 8) sc_law.nd rfl (Or.inl rfl) (pe_ifExp (pt_cmpR op_isN (pv 7) pe_non (nomark _)) (pe_tup (pa_cons pe_str (pa_cons pe_int pa_nil))) (pe_tup (pa_cons pe_str (pa_cons (pv 7) pa_nil)))))
      (pss_one (ps_if (PW.pt (pw_or (pt_cmpR op_ne (pe_callB (call_reprD K hgd (un130 hr)) (by rfl) T.b_repr (by decide +kernel) (pa_cons (pe_c (dvs := []) O__law_told ⟨[], .nil, B__law_told⟩ hgd (hr.mono (by decide)) pass0At (pa_cons (pv 6) pa_nil)) pa_nil)) (pe_callB (call_reprD K hgd (un130 hr)) (by rfl) T.b_repr (by decide +kernel) (pa_cons (pv 8) pa_nil)) (nomark _)) (pw_or (pt_cmpR op_ne (pe_ck0 O_unpacked KB_unpacked_0_text hgd (hr.mono (by decide)) passLAt (pk_cons (pv 5) pk_nil)) (pv 4) (nomark _)) (pw_or1 (pt_cmpR op_ne (pe_ck0 O_packed KB_packed_0_text hgd (hr.mono (by decide)) pass0At (pk_cons (pv 4) pk_nil)) (pv 5) (nomark _))))))
      (pss_one (ps_ret pe_bl))
      pss_nil))))))))))
      (pss_cons (ps_set (i := 9) sc_law.nd rfl (Or.inl rfl) (pe_lst (pa_cons pe_non (pa_cons pe_bl (pa_cons pe_int (pa_cons pe_int (pa_cons (pe_lst pa_nil) (pa_cons (pe_lst (pa_cons pe_str pa_nil)) (pa_cons (pe_tup (pa_cons pe_str pa_nil)) (pa_cons pe_dnewK (pa_cons (pe_lst (pa_cons (pe_ix (ix_listK K) (pv 2) pe_int (fun _ _ => rfl)) pa_nil)) (pa_cons (pe_op op_pow pe_int pe_int) pa_nil))))))))))))
      (pss_one (ps_ret (pe_cmpR (op_eqDK K hr.units) (pe_lc (own := [("_law_thing", 6)]) (g := gName 6) (by rfl) sc_law.nd (pi_listK K (pv 9)) (blkOk_by (own := [("_law_thing", 6)]) (N := nm_law) (sc := defScope s_law) (by decide +kernel)) (fun _ _ _ _ _ => (pg_name (i := 6) sc_law.nd rfl (Or.inl rfl))) (fun _ _ _ _ _ => (pts_one (pt_cmpR op_ne (pe_callB (call_reprD K hgd (un130 hr)) (by rfl) T.b_repr (by decide +kernel) (pa_cons (pe_c (dvs := []) O__law_told ⟨[], .nil, B__law_told⟩ hgd (hr.mono (by decide)) pass0At (pa_cons (pv 6) pa_nil)) pa_nil)) (pe_callB (call_reprD K hgd (un130 hr)) (by rfl) T.b_repr (by decide +kernel) (pa_cons (pe_tup (pa_cons pe_str (pa_cons pe_int pa_nil))) pa_nil)) (nomark _)))) (fun _ _ _ _ _ => (pv 6))) (pe_lst pa_nil) (nomark _)))))))), ?_⟩
    exact law_ok (W := (⟨K, c.cm, tkD⟩ : Wp)) (N := nm_law) (δ := b_law) law_true
      ((ds_seq (ds_mkT (i := 1) (j := 0))
      (ds_seq (ds_set (dn_op od_cat (dn_lc (t := (.nm 3)) (vs := [3]) rfl (di_range1 (da_cons dn_int da_nil)) dt_yes (dn_callN (k := 2) (F := d__law_text) (dv := []) (fun _ _ => .nil) (dps_cons (dp_t (i := 1)) (dps_cons (dp_e dn_int) dps_nil)))) (dn_lst (da_cons dn_str (da_cons dn_str (da_cons dn_str (da_cons dn_str (da_cons dn_str (da_cons (dn_op od_mulS (dn_callN (k := 2) (F := d__law_text) (dv := []) (fun _ _ => .nil) (dps_cons (dp_t (i := 1)) (dps_cons (dp_e dn_int) dps_nil))) dn_int) da_nil)))))))))
      (ds_seq (ds_for (g := (.nm 4)) (di_list (dn_v (i := 2)))
      (ds_seq (ds_set (dn_callN (k := 1) (F := d_packed) (dv := []) (fun _ _ => .nil) (dps_cons (dp_e (dn_v (i := 4))) dps_nil)))
      (ds_seq (ds_if (dt_or (dt_test (dn_op od_ne (dn_v (i := 5)) (dn_callN (k := 1) (F := d__law_packed) (dv := []) (fun _ _ => .nil) (dps_cons (dp_e (dn_v (i := 4))) dps_nil)))) (dt_or (dt_test (dn_op od_in_sign dn_str (dn_v (i := 5)))) (dt_or (dt_test (dn_op od_in_sign dn_str (dn_v (i := 5)))) (dt_test (dn_op od_eq (dn_v (i := 5)) dn_str)))))
      (ds_ret dn_bl)
      ds_next)
      (ds_seq (ds_if (dt_test (dn_op od_ne (dn_cb cd_repr (da_cons (dn_callN (k := 1) (F := d__law_told) (dv := []) (fun _ _ => .nil) (dps_cons (dp_e (dn_v (i := 5))) dps_nil)) da_nil)) (dn_cb cd_repr (da_cons (dn_tup (da_cons dn_str (da_cons (dn_v (i := 4)) da_nil))) da_nil))))
      (ds_ret dn_bl)
      ds_next)
      (ds_for (g := (.nm 6)) (di_tup (dn_tup (da_cons (dn_callN (k := 2) (F := d__law_bent) (dv := []) (fun _ _ => .nil) (dps_cons (dp_t (i := 1)) (dps_cons (dp_e (dn_v (i := 5))) dps_nil))) (da_cons (dn_callN (k := 2) (F := d__law_bent) (dv := []) (fun _ _ => .nil) (dps_cons (dp_t (i := 1)) (dps_cons (dp_e (dn_callN (k := 2) (F := d__law_bent) (dv := []) (fun _ _ => .nil) (dps_cons (dp_t (i := 1)) (dps_cons (dp_e (dn_v (i := 5))) dps_nil)))) dps_nil))) da_nil))))
      (ds_seq (ds_set (dn_callN (k := 1) (F := d__law_unpacked) (dv := []) (fun _ _ => .nil) (dps_cons (dp_e (dn_v (i := 6))) dps_nil)))
      (ds_seq (ds_set (dn_if (dt_test (dn_op od_isN (dn_v (i := 7)) dn_non)) (dn_tup (da_cons dn_str (da_cons dn_int da_nil))) (dn_tup (da_cons dn_str (da_cons (dn_v (i := 7)) da_nil)))))
      (ds_if (dt_or (dt_test (dn_op od_ne (dn_cb cd_repr (da_cons (dn_callN (k := 1) (F := d__law_told) (dv := []) (fun _ _ => .nil) (dps_cons (dp_e (dn_v (i := 6))) dps_nil)) da_nil)) (dn_cb cd_repr (da_cons (dn_v (i := 8)) da_nil)))) (dt_or (dt_test (dn_op od_ne (dn_kwN (k := 1) (F := d_unpacked) (ix := [.z 0]) (dv := []) (fun _ _ => .nil) dps_nil (dps_cons (dp_e (dn_v (i := 5))) dps_nil)) (dn_v (i := 4)))) (dt_test (dn_op od_ne (dn_kwN (k := 1) (F := d_packed) (ix := [.z 0]) (dv := []) (fun _ _ => .nil) dps_nil (dps_cons (dp_e (dn_v (i := 4))) dps_nil)) (dn_v (i := 5))))))
      (ds_ret dn_bl)
      ds_next))))))))
      (ds_seq (ds_set (dn_lst (da_cons dn_non (da_cons dn_bl (da_cons dn_int (da_cons dn_int (da_cons (dn_lst da_nil) (da_cons (dn_lst (da_cons dn_str da_nil)) (da_cons (dn_tup (da_cons dn_str da_nil)) (da_cons dn_dic0 (da_cons (dn_lst (da_cons (dn_op od_ixL (dn_v (i := 2)) dn_int) da_nil)) (da_cons (dn_op od_pow dn_int dn_int) da_nil))))))))))))
      (ds_ret (dn_op od_eqD (dn_lc (t := (.nm 6)) (vs := [6]) rfl (di_list (dn_v (i := 9))) (dt_test (dn_op od_ne (dn_cb cd_repr (da_cons (dn_callN (k := 1) (F := d__law_told) (dv := []) (fun _ _ => .nil) (dps_cons (dp_e (dn_v (i := 6))) dps_nil)) da_nil)) (dn_cb cd_repr (da_cons (dn_tup (da_cons dn_str (da_cons dn_int da_nil))) da_nil)))) (dn_v (i := 6))) (dn_lst da_nil)))))))) h
end Nk79

set_option Elab.async false
set_option linter.all false
set_option maxRecDepth 100000
set_option maxHeartbeats 4000000
namespace Nk79
open PySem L2 Np
theorem all_mk {l : PySem.W.OpenLaw} {w : World} {K : PySem.W.Frag} {h : Heap} {mg : Str → Option Value} {fa : Addr} {f_packed f_plain_signs f_text_in f_unpacked f__law_held f__law_take f__law_text f__law_packed f__law_unpacked f__law_told f__law_bent f_law f_NoTextD_initD : Addr} {C_NightError C_NoText C_NoCopy C_NoDeed C_NoRow : Addr}
    (X : K.In h) (G : h.Ns mainGlobals mg) (hfa : mg "law" = some (.ref fa))
    {od_packed an_packed od_plain_signs an_plain_signs od_text_in an_text_in od_unpacked an_unpacked od__law_held an__law_held od__law_take an__law_take od__law_text an__law_text od__law_packed an__law_packed od__law_unpacked an__law_unpacked od__law_told an__law_told od__law_bent an__law_bent od_law an_law od_NoTextD_initD an_NoTextD_initD : Option Addr} {sl_packed sl_plain_signs sl_text_in sl_unpacked sl__law_held sl__law_take sl__law_text sl__law_packed sl__law_unpacked sl__law_told sl__law_bent sl_law sl_NoTextD_initD : Array (Option Value)}
    {oc_packed kV_packed dc_packed pm_packed cd_packed ct_packed oc_plain_signs kV_plain_signs dc_plain_signs pm_plain_signs cd_plain_signs ct_plain_signs oc_text_in kV_text_in dc_text_in pm_text_in cd_text_in ct_text_in oc_unpacked kV_unpacked dc_unpacked pm_unpacked cd_unpacked ct_unpacked oc__law_held kV__law_held dc__law_held pm__law_held cd__law_held ct__law_held oc__law_take kV__law_take dc__law_take pm__law_take cd__law_take ct__law_take oc__law_text kV__law_text dc__law_text pm__law_text cd__law_text ct__law_text oc__law_packed kV__law_packed dc__law_packed pm__law_packed cd__law_packed ct__law_packed oc__law_unpacked kV__law_unpacked dc__law_unpacked pm__law_unpacked cd__law_unpacked ct__law_unpacked oc__law_told kV__law_told dc__law_told pm__law_told cd__law_told ct__law_told oc__law_bent kV__law_bent dc__law_bent pm__law_bent cd__law_bent ct__law_bent oc_law kV_law dc_law pm_law cd_law ct_law oc_NoTextD_initD kV_NoTextD_initD dc_NoTextD_initD pm_NoTextD_initD cd_NoTextD_initD ct_NoTextD_initD : Value}
    {tk_EMPTY : Tok}
    (a_packed : PySem.W.nsIn K mainGlobals "packed" = some (some (.ref f_packed)))
    (a_plain_signs : PySem.W.nsIn K mainGlobals "plain_signs" = some (some (.ref f_plain_signs)))
    (a_text_in : PySem.W.nsIn K mainGlobals "text_in" = some (some (.ref f_text_in)))
    (a_unpacked : PySem.W.nsIn K mainGlobals "unpacked" = some (some (.ref f_unpacked)))
    (a__law_held : PySem.W.nsIn K mainGlobals "_law_held" = some (some (.ref f__law_held)))
    (a__law_take : PySem.W.nsIn K mainGlobals "_law_take" = some (some (.ref f__law_take)))
    (a__law_text : PySem.W.nsIn K mainGlobals "_law_text" = some (some (.ref f__law_text)))
    (a__law_packed : PySem.W.nsIn K mainGlobals "_law_packed" = some (some (.ref f__law_packed)))
    (a__law_unpacked : PySem.W.nsIn K mainGlobals "_law_unpacked" = some (some (.ref f__law_unpacked)))
    (a__law_told : PySem.W.nsIn K mainGlobals "_law_told" = some (some (.ref f__law_told)))
    (a__law_bent : PySem.W.nsIn K mainGlobals "_law_bent" = some (some (.ref f__law_bent)))
    (a_law : PySem.W.nsIn K mainGlobals "law" = some (some (.ref f_law)))
    (a_NightError : PySem.W.nsIn K mainGlobals "NightError" = some (some (.ref C_NightError)))
    (a_NoText : PySem.W.nsIn K mainGlobals "NoText" = some (some (.ref C_NoText)))
    (a_NoCopy : PySem.W.nsIn K mainGlobals "NoCopy" = some (some (.ref C_NoCopy)))
    (a_NoDeed : PySem.W.nsIn K mainGlobals "NoDeed" = some (some (.ref C_NoDeed)))
    (a_NoRow : PySem.W.nsIn K mainGlobals "NoRow" = some (some (.ref C_NoRow)))
    (l_packed : K.lookup f_packed = some ⟨oc_packed, od_packed, .func (PySem.W.fnOf "packed" "packed" (defArgs s_packed) (defBody s_packed) (defScope s_packed) .none kV_packed dc_packed pm_packed an_packed cd_packed ct_packed), sl_packed⟩)
    (c_packed : PySem.W.codeIn K cd_packed "packed" = true)
    (k_packed : PySem.W.keepIn K (.ref f_packed) = true)
    (l_plain_signs : K.lookup f_plain_signs = some ⟨oc_plain_signs, od_plain_signs, .func (PySem.W.fnOf "plain_signs" "plain_signs" (defArgs s_plain_signs) (defBody s_plain_signs) (defScope s_plain_signs) .none kV_plain_signs dc_plain_signs pm_plain_signs an_plain_signs cd_plain_signs ct_plain_signs), sl_plain_signs⟩)
    (c_plain_signs : PySem.W.codeIn K cd_plain_signs "plain_signs" = true)
    (k_plain_signs : PySem.W.keepIn K (.ref f_plain_signs) = true)
    (l_text_in : K.lookup f_text_in = some ⟨oc_text_in, od_text_in, .func (PySem.W.fnOf "text_in" "text_in" (defArgs s_text_in) (defBody s_text_in) (defScope s_text_in) .none kV_text_in dc_text_in pm_text_in an_text_in cd_text_in ct_text_in), sl_text_in⟩)
    (c_text_in : PySem.W.codeIn K cd_text_in "text_in" = true)
    (k_text_in : PySem.W.keepIn K (.ref f_text_in) = true)
    (l_unpacked : K.lookup f_unpacked = some ⟨oc_unpacked, od_unpacked, .func (PySem.W.fnOf "unpacked" "unpacked" (defArgs s_unpacked) (defBody s_unpacked) (defScope s_unpacked) .none kV_unpacked dc_unpacked pm_unpacked an_unpacked cd_unpacked ct_unpacked), sl_unpacked⟩)
    (c_unpacked : PySem.W.codeIn K cd_unpacked "unpacked" = true)
    (k_unpacked : PySem.W.keepIn K (.ref f_unpacked) = true)
    (l__law_held : K.lookup f__law_held = some ⟨oc__law_held, od__law_held, .func (PySem.W.fnOf "_law_held" "_law_held" (defArgs s__law_held) (defBody s__law_held) (defScope s__law_held) .none kV__law_held dc__law_held pm__law_held an__law_held cd__law_held ct__law_held), sl__law_held⟩)
    (c__law_held : PySem.W.codeIn K cd__law_held "_law_held" = true)
    (k__law_held : PySem.W.keepIn K (.ref f__law_held) = true)
    (l__law_take : K.lookup f__law_take = some ⟨oc__law_take, od__law_take, .func (PySem.W.fnOf "_law_take" "_law_take" (defArgs s__law_take) (defBody s__law_take) (defScope s__law_take) .none kV__law_take dc__law_take pm__law_take an__law_take cd__law_take ct__law_take), sl__law_take⟩)
    (c__law_take : PySem.W.codeIn K cd__law_take "_law_take" = true)
    (k__law_take : PySem.W.keepIn K (.ref f__law_take) = true)
    (l__law_text : K.lookup f__law_text = some ⟨oc__law_text, od__law_text, .func (PySem.W.fnOf "_law_text" "_law_text" (defArgs s__law_text) (defBody s__law_text) (defScope s__law_text) .none kV__law_text dc__law_text pm__law_text an__law_text cd__law_text ct__law_text), sl__law_text⟩)
    (c__law_text : PySem.W.codeIn K cd__law_text "_law_text" = true)
    (k__law_text : PySem.W.keepIn K (.ref f__law_text) = true)
    (l__law_packed : K.lookup f__law_packed = some ⟨oc__law_packed, od__law_packed, .func (PySem.W.fnOf "_law_packed" "_law_packed" (defArgs s__law_packed) (defBody s__law_packed) (defScope s__law_packed) .none kV__law_packed dc__law_packed pm__law_packed an__law_packed cd__law_packed ct__law_packed), sl__law_packed⟩)
    (c__law_packed : PySem.W.codeIn K cd__law_packed "_law_packed" = true)
    (k__law_packed : PySem.W.keepIn K (.ref f__law_packed) = true)
    (l__law_unpacked : K.lookup f__law_unpacked = some ⟨oc__law_unpacked, od__law_unpacked, .func (PySem.W.fnOf "_law_unpacked" "_law_unpacked" (defArgs s__law_unpacked) (defBody s__law_unpacked) (defScope s__law_unpacked) .none kV__law_unpacked dc__law_unpacked pm__law_unpacked an__law_unpacked cd__law_unpacked ct__law_unpacked), sl__law_unpacked⟩)
    (c__law_unpacked : PySem.W.codeIn K cd__law_unpacked "_law_unpacked" = true)
    (k__law_unpacked : PySem.W.keepIn K (.ref f__law_unpacked) = true)
    (l__law_told : K.lookup f__law_told = some ⟨oc__law_told, od__law_told, .func (PySem.W.fnOf "_law_told" "_law_told" (defArgs s__law_told) (defBody s__law_told) (defScope s__law_told) .none kV__law_told dc__law_told pm__law_told an__law_told cd__law_told ct__law_told), sl__law_told⟩)
    (c__law_told : PySem.W.codeIn K cd__law_told "_law_told" = true)
    (k__law_told : PySem.W.keepIn K (.ref f__law_told) = true)
    (l__law_bent : K.lookup f__law_bent = some ⟨oc__law_bent, od__law_bent, .func (PySem.W.fnOf "_law_bent" "_law_bent" (defArgs s__law_bent) (defBody s__law_bent) (defScope s__law_bent) .none kV__law_bent dc__law_bent pm__law_bent an__law_bent cd__law_bent ct__law_bent), sl__law_bent⟩)
    (c__law_bent : PySem.W.codeIn K cd__law_bent "_law_bent" = true)
    (k__law_bent : PySem.W.keepIn K (.ref f__law_bent) = true)
    (l_law : K.lookup f_law = some ⟨oc_law, od_law, .func (PySem.W.fnOf "law" "law" (defArgs s_law) (defBody s_law) (defScope s_law) .none kV_law dc_law pm_law an_law cd_law ct_law), sl_law⟩)
    (c_law : PySem.W.codeIn K cd_law "law" = true)
    (k_law : PySem.W.keepIn K (.ref f_law) = true)
    (fi_NoTextD_initD : PySem.W.findIn K (.ref C_NoText) "__init__" = some (some (.ref f_NoTextD_initD)))
    (ft_NoTextD_initD : PySem.W.typeIn K (.ref f_NoTextD_initD) = some (.type "function"))
    (l_NoTextD_initD : K.lookup f_NoTextD_initD = some ⟨oc_NoTextD_initD, od_NoTextD_initD, .func (PySem.W.fnOf "__init__" "NoText.__init__" (defArgs s_NoTextD_initD) (defBody s_NoTextD_initD) (defScope s_NoTextD_initD) .none kV_NoTextD_initD dc_NoTextD_initD pm_NoTextD_initD an_NoTextD_initD cd_NoTextD_initD ct_NoTextD_initD), sl_NoTextD_initD⟩)
    (c_NoTextD_initD : PySem.W.codeIn K cd_NoTextD_initD "NoText.__init__" = true)
    (k_NoTextD_initD : PySem.W.keepIn K (.ref f_NoTextD_initD) = true)
    (z_ValueError : PySem.W.nsIn K mainGlobals "ValueError" = some none)
    (z_any : PySem.W.nsIn K mainGlobals "any" = some none)
    (z_isinstance : PySem.W.nsIn K mainGlobals "isinstance" = some none)
    (z_len : PySem.W.nsIn K mainGlobals "len" = some none)
    (z_list : PySem.W.nsIn K mainGlobals "list" = some none)
    (z_range : PySem.W.nsIn K mainGlobals "range" = some none)
    (z_repr : PySem.W.nsIn K mainGlobals "repr" = some none)
    (z_str : PySem.W.nsIn K mainGlobals "str" = some none)
    (g_EMPTY : PySem.W.nsIn K mainGlobals "EMPTY" = some (some (.str "~e" tk_EMPTY)))
    (bs_NightError : PySem.W.specialIn K (.ref C_NightError) "__getattribute__" = some (some (.builtin "type.__getattribute__")))
    (br_NightError : PySem.W.readsIn K C_NightError (.type "type") = true)
    (bi_NightError : PySem.W.findCls K (.ref C_NightError) (.type "type") "__init__" = some (.val (.builtin "ValueError.__init__")))
    {nm_NoText q_NoText : Str} {N_NoText : Addr} {bs1_NoText bm_NoText sub_NoText : List Value} {sn_NoText : List Str} {ab_NoText : Bool} {col_NoText : Option Bool} {dd_NoText : Option Addr} {m0_NoText m1_NoText m2_NoText m3_NoText m5_NoText : Option Value}
    (xl_NoText : K.lookup C_NoText = some (excClassObj nm_NoText q_NoText C_NoText N_NoText bs1_NoText bm_NoText true sn_NoText sub_NoText ab_NoText col_NoText dd_NoText m0_NoText m1_NoText m2_NoText m3_NoText m5_NoText "ValueError.__new__"))
    (xr_NoText : PySem.HandSPX.refsVE bm_NoText = true)
    (xs_NoText : PySem.W.findIn K (.ref C_NoText) "__setattr__" = some (some (.builtin "object.__setattr__")))
    (xe_NoText : PySem.W.subIn K (.ref C_NoText) (.type "BaseException") = some true)
    (xt_NoText : PySem.W.typeIn K (.ref C_NoText) = some (.type "type"))
    (xk_NoText : PySem.W.keepIn K (.ref C_NoText) = true)
    (eg_NoText : PySem.W.findIn K (.ref C_NoText) "__getattribute__" = some (some (.builtin "BaseException.__getattribute__")))
    (ek_NoText : PySem.W.findIn K (.ref C_NoText) "__getattr__" = some none)
    (ed_NoText : PySem.W.hasDictIn K C_NoText = true)
    (ea_NoText : PySem.W.findIn K (.ref C_NoText) "__class__" = some (some (.builtin "object.__class__")))
    (en_NoText : PySem.W.specialIn K (.builtin "object.__class__") "__get__" = some (some (.builtin "getset_descriptor.__get__")))
    (et_NoText : PySem.W.takesIn K (.builtin "object.__class__") = some true)
    (em_NoText : PySem.W.mroIn K C_NoText (.type "object") = some true)
    (no_NoText_row : PySem.W.findIn K (.ref C_NoText) "row" = some none)
    {D_PACKED : Addr} {dn_PACKED : Nat} {dh0_PACKED dh1_PACKED dh2_PACKED dh3_PACKED dh4_PACKED : Int} {dt0_PACKED du0_PACKED dt1_PACKED du1_PACKED dt2_PACKED du2_PACKED dt3_PACKED du3_PACKED dt4_PACKED du4_PACKED : Tok}
    (a_PACKED : PySem.W.nsIn K mainGlobals "PACKED" = some (some (.ref D_PACKED)))
    (dl_PACKED : K.lookup D_PACKED = some ⟨.type "dict", none, .dict #[⟨dh0_PACKED, .str " " dt0_PACKED, .str "_" du0_PACKED⟩, ⟨dh1_PACKED, .str "\n" dt1_PACKED, .str "/" du1_PACKED⟩, ⟨dh2_PACKED, .str "_" dt2_PACKED, .str "~u" du2_PACKED⟩, ⟨dh3_PACKED, .str "/" dt3_PACKED, .str "~s" du3_PACKED⟩, ⟨dh4_PACKED, .str "~" dt4_PACKED, .str "~t" du4_PACKED⟩] dn_PACKED, #[]⟩)
    (dz_PACKED : (D_PACKED == sysModules) = false)
    (dx0_PACKED : dh0_PACKED = hashStr w " ")
    (dx1_PACKED : dh1_PACKED = hashStr w "\n")
    (dx2_PACKED : dh2_PACKED = hashStr w "_")
    (dx3_PACKED : dh3_PACKED = hashStr w "/")
    (dx4_PACKED : dh4_PACKED = hashStr w "~")
    {D_MARKED : Addr} {dn_MARKED : Nat} {dh0_MARKED dh1_MARKED dh2_MARKED : Int} {dt0_MARKED du0_MARKED dt1_MARKED du1_MARKED dt2_MARKED du2_MARKED : Tok}
    (a_MARKED : PySem.W.nsIn K mainGlobals "MARKED" = some (some (.ref D_MARKED)))
    (dl_MARKED : K.lookup D_MARKED = some ⟨.type "dict", none, .dict #[⟨dh0_MARKED, .str "u" dt0_MARKED, .str "_" du0_MARKED⟩, ⟨dh1_MARKED, .str "s" dt1_MARKED, .str "/" du1_MARKED⟩, ⟨dh2_MARKED, .str "t" dt2_MARKED, .str "~" du2_MARKED⟩] dn_MARKED, #[]⟩)
    (dz_MARKED : (D_MARKED == sysModules) = false)
    (dx0_MARKED : dh0_MARKED = hashStr w "u")
    (dx1_MARKED : dh1_MARKED = hashStr w "s")
    (dx2_MARKED : dh2_MARKED = hashStr w "t")
    (mm_NoText_NightError : PySem.W.exmOne K (.ref C_NoText) (.ref C_NightError) = some true)
    (kk_NoText_NoText : PySem.W.kitOne K (.ref C_NoText) (.ref C_NoText) = some true)
    (kk_NoText_ValueError : PySem.W.kitOne K (.ref C_NoText) (.type "ValueError") = some true)
    (kk_NoText_NoCopy : PySem.W.kitOne K (.ref C_NoText) (.ref C_NoCopy) = some false)
    (kk_NoText_NoDeed : PySem.W.kitOne K (.ref C_NoText) (.ref C_NoDeed) = some false)
    (kk_NoText_NoRow : PySem.W.kitOne K (.ref C_NoText) (.ref C_NoRow) = some false)
    : ∃ (c : Ad) (fd : FuncData), (∀ (s : Shared) (v : Value), BindsTo s fd ⟨[v], []⟩ [("_law_script", v)]) ∧ ∀ base : Heap, K.In base → base.Ns mainGlobals mg → FnG l.prog w K mg base CX0 6 fa fd ["_law_script"] (sp_law K c) := by
  have e := hfa.symm.trans (PySem.W.mg_of X G a_law)
  cases e
  have T : Txt K mg (⟨C_NightError, C_NoText, C_NoCopy, C_NoDeed, C_NoRow, (fun x => if x = "NightError" then C_NightError else if x = "NoText" then C_NoText else if x = "NoCopy" then C_NoCopy else if x = "NoDeed" then C_NoDeed else if x = "NoRow" then C_NoRow else 0)⟩ : Ad) := ⟨PySem.W.mg_none_of X G z_ValueError, PySem.W.mg_none_of X G z_any, PySem.W.mg_none_of X G z_isinstance, PySem.W.mg_none_of X G z_len, PySem.W.mg_none_of X G z_list, PySem.W.mg_none_of X G z_range, PySem.W.mg_none_of X G z_repr, PySem.W.mg_none_of X G z_str, ⟨_, PySem.W.mg_of X G g_EMPTY, ⟨_, rfl⟩⟩, PySem.W.mg_of X G a_NightError, PySem.W.mg_of X G a_NoText, PySem.W.mg_of X G a_NoCopy, PySem.W.mg_of X G a_NoDeed, PySem.W.mg_of X G a_NoRow, ⟨PySem.W.mg_of X G a_NightError, bs_NightError, br_NightError, bi_NightError⟩, ⟨⟨_, _, _, _, _, _, _, _, _, _, _, _, _, _, _, xl_NoText, xr_NoText⟩, xs_NoText, xe_NoText, xt_NoText, xk_NoText⟩, ⟨eg_NoText, ek_NoText, xe_NoText, ed_NoText, ea_NoText, en_NoText, et_NoText, em_NoText⟩, no_NoText_row, mm_NoText_NightError, kk_NoText_NoText, kk_NoText_ValueError, kk_NoText_NoCopy, kk_NoText_NoDeed, kk_NoText_NoRow, rfl⟩
  have F_packed := fun_mk (st := s_packed) l_packed c_packed k_packed
  have F_plain_signs := fun_mk (st := s_plain_signs) l_plain_signs c_plain_signs k_plain_signs
  have F_text_in := fun_mk (st := s_text_in) l_text_in c_text_in k_text_in
  have F_unpacked := fun_mk (st := s_unpacked) l_unpacked c_unpacked k_unpacked
  have F__law_held := fun_mk (st := s__law_held) l__law_held c__law_held k__law_held
  have F__law_take := fun_mk (st := s__law_take) l__law_take c__law_take k__law_take
  have F__law_text := fun_mk (st := s__law_text) l__law_text c__law_text k__law_text
  have F__law_packed := fun_mk (st := s__law_packed) l__law_packed c__law_packed k__law_packed
  have F__law_unpacked := fun_mk (st := s__law_unpacked) l__law_unpacked c__law_unpacked k__law_unpacked
  have F__law_told := fun_mk (st := s__law_told) l__law_told c__law_told k__law_told
  have F__law_bent := fun_mk (st := s__law_bent) l__law_bent c__law_bent k__law_bent
  have F_law := fun_mk (st := s_law) l_law c_law k_law
  have F_NoTextD_initD := fun_mk (st := s_NoTextD_initD) l_NoTextD_initD c_NoTextD_initD k_NoTextD_initD
  have B_packed := F_packed.binds (ps := ps_packed) fun _ _ _ _ _ _ us hl => match us, hl with | [_], _ => rfl
  have KB_packed_0_text : KB K _ ps_packed 0 ["text"] (pickL [] [.z 0]) := Fun.kbp F_packed 0 _ [.z 0] fun _ _ _ _ _ _ us ws h1 h2 => match us, ws, h1, h2 with | [], [_], _, _ => rfl
  have B_plain_signs := F_plain_signs.binds (ps := ps_plain_signs) fun _ _ _ _ _ _ us hl => match us, hl with | [_], _ => rfl
  have B_text_in := F_text_in.binds (ps := ps_text_in) fun _ _ _ _ _ _ us hl => match us, hl with | [_], _ => rfl
  have B_unpacked := F_unpacked.binds (ps := ps_unpacked) fun _ _ _ _ _ _ us hl => match us, hl with | [_], _ => rfl
  have KB_unpacked_0_text : KB K _ ps_unpacked 0 ["text"] (pickL [] [.z 0]) := Fun.kbp F_unpacked 0 _ [.z 0] fun _ _ _ _ _ _ us ws h1 h2 => match us, ws, h1, h2 with | [], [_], _, _ => rfl
  have B__law_held := F__law_held.binds (ps := ps__law_held) fun _ _ _ _ _ _ us hl => match us, hl with | [_], _ => rfl
  have B__law_take := F__law_take.binds (ps := ps__law_take) fun _ _ _ _ _ _ us hl => match us, hl with | [_, _], _ => rfl
  have B__law_text := F__law_text.binds (ps := ps__law_text) fun _ _ _ _ _ _ us hl => match us, hl with | [_, _], _ => rfl
  have B__law_packed := F__law_packed.binds (ps := ps__law_packed) fun _ _ _ _ _ _ us hl => match us, hl with | [_], _ => rfl
  have B__law_unpacked := F__law_unpacked.binds (ps := ps__law_unpacked) fun _ _ _ _ _ _ us hl => match us, hl with | [_], _ => rfl
  have B__law_told := F__law_told.binds (ps := ps__law_told) fun _ _ _ _ _ _ us hl => match us, hl with | [_], _ => rfl
  have B__law_bent := F__law_bent.binds (ps := ps__law_bent) fun _ _ _ _ _ _ us hl => match us, hl with | [_, _], _ => rfl
  have B_NoTextD_initD := F_NoTextD_initD.binds (ps := ps_NoTextD_initD) fun _ _ _ _ _ _ us hl => match us, hl with | [_, _], _ => rfl
  refine ⟨(⟨C_NightError, C_NoText, C_NoCopy, C_NoDeed, C_NoRow, (fun x => if x = "NightError" then C_NightError else if x = "NoText" then C_NoText else if x = "NoCopy" then C_NoCopy else if x = "NoDeed" then C_NoDeed else if x = "NoRow" then C_NoRow else 0)⟩ : Ad), PySem.W.fnOf "law" "law" (defArgs s_law) (defBody s_law) (defScope s_law) .none kV_law dc_law pm_law an_law cd_law ct_law, fun s v => .of_eq rfl, fun base _ _ => ?_⟩
  have GD_PACKED : GDict l.prog w K D_PACKED (tv g_PACKED) := GDict.of dl_PACKED dz_PACKED (.cons ⟨dx0_PACKED, keyIs_str _ _, _, rfl⟩ (.cons ⟨dx1_PACKED, keyIs_str _ _, _, rfl⟩ (.cons ⟨dx2_PACKED, keyIs_str _ _, _, rfl⟩ (.cons ⟨dx3_PACKED, keyIs_str _ _, _, rfl⟩ (.cons ⟨dx4_PACKED, keyIs_str _ _, _, rfl⟩ (.nil)))))) (by decide +kernel)
  have GD_MARKED : GDict l.prog w K D_MARKED (tv g_MARKED) := GDict.of dl_MARKED dz_MARKED (.cons ⟨dx0_MARKED, keyIs_str _ _, _, rfl⟩ (.cons ⟨dx1_MARKED, keyIs_str _ _, _, rfl⟩ (.cons ⟨dx2_MARKED, keyIs_str _ _, _, rfl⟩ (.nil)))) (by decide +kernel)
  have R_NoText : RaiseC l.prog w K mg base C_NoText "NoText" ps_NoTextD_initD ["row"] := ⟨f_NoTextD_initD, _, fi_NoTextD_initD, ft_NoTextD_initD, ok_NoTextD_initD T F_NoTextD_initD, B_NoTextD_initD⟩
  have O__law_held : OkG l.prog w K mg base CX0 1 "_law_held" ps__law_held (sp__law_held K (⟨C_NightError, C_NoText, C_NoCopy, C_NoDeed, C_NoRow, (fun x => if x = "NightError" then C_NightError else if x = "NoText" then C_NoText else if x = "NoCopy" then C_NoCopy else if x = "NoDeed" then C_NoDeed else if x = "NoRow" then C_NoRow else 0)⟩ : Ad)) f__law_held _ := ⟨ok__law_held T F__law_held , PySem.W.mg_of X G a__law_held, k__law_held⟩
  have O_packed : OkG l.prog w K mg base CX0 1 "packed" ps_packed (sp_packed K (⟨C_NightError, C_NoText, C_NoCopy, C_NoDeed, C_NoRow, (fun x => if x = "NightError" then C_NightError else if x = "NoText" then C_NoText else if x = "NoCopy" then C_NoCopy else if x = "NoDeed" then C_NoDeed else if x = "NoRow" then C_NoRow else 0)⟩ : Ad)) f_packed _ := ⟨ok_packed T F_packed (PySem.W.mg_of X G a_PACKED) GD_PACKED, PySem.W.mg_of X G a_packed, k_packed⟩
  have O_plain_signs : OkG l.prog w K mg base CX0 1 "plain_signs" ps_plain_signs (sp_plain_signs K (⟨C_NightError, C_NoText, C_NoCopy, C_NoDeed, C_NoRow, (fun x => if x = "NightError" then C_NightError else if x = "NoText" then C_NoText else if x = "NoCopy" then C_NoCopy else if x = "NoDeed" then C_NoDeed else if x = "NoRow" then C_NoRow else 0)⟩ : Ad)) f_plain_signs _ := ⟨ok_plain_signs T F_plain_signs , PySem.W.mg_of X G a_plain_signs, k_plain_signs⟩
  have O_text_in : OkG l.prog w K mg base CX0 2 "text_in" ps_text_in (sp_text_in K (⟨C_NightError, C_NoText, C_NoCopy, C_NoDeed, C_NoRow, (fun x => if x = "NightError" then C_NightError else if x = "NoText" then C_NoText else if x = "NoCopy" then C_NoCopy else if x = "NoDeed" then C_NoDeed else if x = "NoRow" then C_NoRow else 0)⟩ : Ad)) f_text_in _ := ⟨ok_text_in T F_text_in O_plain_signs B_plain_signs (PySem.W.mg_of X G a_MARKED) GD_MARKED, PySem.W.mg_of X G a_text_in, k_text_in⟩
  have O_unpacked : OkG l.prog w K mg base (L2.CX l.prog w) 4 "unpacked" ps_unpacked (sp_unpacked K (⟨C_NightError, C_NoText, C_NoCopy, C_NoDeed, C_NoRow, (fun x => if x = "NightError" then C_NightError else if x = "NoText" then C_NoText else if x = "NoCopy" then C_NoCopy else if x = "NoDeed" then C_NoDeed else if x = "NoRow" then C_NoRow else 0)⟩ : Ad)) f_unpacked _ := ⟨ok_unpacked T F_unpacked O_text_in B_text_in R_NoText, PySem.W.mg_of X G a_unpacked, k_unpacked⟩
  have O__law_take : OkG l.prog w K mg base CX0 3 "_law_take" ps__law_take (sp__law_take K (⟨C_NightError, C_NoText, C_NoCopy, C_NoDeed, C_NoRow, (fun x => if x = "NightError" then C_NightError else if x = "NoText" then C_NoText else if x = "NoCopy" then C_NoCopy else if x = "NoDeed" then C_NoDeed else if x = "NoRow" then C_NoRow else 0)⟩ : Ad)) f__law_take _ := ⟨ok__law_take T F__law_take (PySem.W.mg_of X G a__law_take) k__law_take B__law_take, PySem.W.mg_of X G a__law_take, k__law_take⟩
  have O__law_text : OkG l.prog w K mg base CX0 4 "_law_text" ps__law_text (sp__law_text K (⟨C_NightError, C_NoText, C_NoCopy, C_NoDeed, C_NoRow, (fun x => if x = "NightError" then C_NightError else if x = "NoText" then C_NoText else if x = "NoCopy" then C_NoCopy else if x = "NoDeed" then C_NoDeed else if x = "NoRow" then C_NoRow else 0)⟩ : Ad)) f__law_text _ := ⟨ok__law_text T F__law_text O__law_take B__law_take, PySem.W.mg_of X G a__law_text, k__law_text⟩
  have O__law_packed : OkG l.prog w K mg base CX0 1 "_law_packed" ps__law_packed (sp__law_packed K (⟨C_NightError, C_NoText, C_NoCopy, C_NoDeed, C_NoRow, (fun x => if x = "NightError" then C_NightError else if x = "NoText" then C_NoText else if x = "NoCopy" then C_NoCopy else if x = "NoDeed" then C_NoDeed else if x = "NoRow" then C_NoRow else 0)⟩ : Ad)) f__law_packed _ := ⟨ok__law_packed T F__law_packed , PySem.W.mg_of X G a__law_packed, k__law_packed⟩
  have O__law_unpacked : OkG l.prog w K mg base CX0 1 "_law_unpacked" ps__law_unpacked (sp__law_unpacked K (⟨C_NightError, C_NoText, C_NoCopy, C_NoDeed, C_NoRow, (fun x => if x = "NightError" then C_NightError else if x = "NoText" then C_NoText else if x = "NoCopy" then C_NoCopy else if x = "NoDeed" then C_NoDeed else if x = "NoRow" then C_NoRow else 0)⟩ : Ad)) f__law_unpacked _ := ⟨ok__law_unpacked T F__law_unpacked , PySem.W.mg_of X G a__law_unpacked, k__law_unpacked⟩
  have O__law_told : OkG l.prog w K mg base CX0 5 "_law_told" ps__law_told (sp__law_told K (⟨C_NightError, C_NoText, C_NoCopy, C_NoDeed, C_NoRow, (fun x => if x = "NightError" then C_NightError else if x = "NoText" then C_NoText else if x = "NoCopy" then C_NoCopy else if x = "NoDeed" then C_NoDeed else if x = "NoRow" then C_NoRow else 0)⟩ : Ad)) f__law_told _ := ⟨ok__law_told T F__law_told O_unpacked B_unpacked, PySem.W.mg_of X G a__law_told, k__law_told⟩
  have O__law_bent : OkG l.prog w K mg base CX0 4 "_law_bent" ps__law_bent (sp__law_bent K (⟨C_NightError, C_NoText, C_NoCopy, C_NoDeed, C_NoRow, (fun x => if x = "NightError" then C_NightError else if x = "NoText" then C_NoText else if x = "NoCopy" then C_NoCopy else if x = "NoDeed" then C_NoDeed else if x = "NoRow" then C_NoRow else 0)⟩ : Ad)) f__law_bent _ := ⟨ok__law_bent T F__law_bent O__law_take B__law_take, PySem.W.mg_of X G a__law_bent, k__law_bent⟩
  exact ok_law T F_law O__law_held B__law_held O_packed B_packed KB_packed_0_text O__law_text B__law_text O__law_bent B__law_bent O__law_unpacked B__law_unpacked O__law_packed B__law_packed O__law_told B__law_told O_unpacked KB_unpacked_0_text
theorem walk {l : PySem.W.OpenLaw} {q : Program} {loose : List Str} {XP : (Str → Option Value) → Heap → Prop} {YP : World → Heap → Prop} {d : DefRec} {K : Params → PySem.W.Frag} (hn : l.most = some 63) (hdf : d.params.defaults = [])
    (hY : ∀ (w : World) (h : Heap), YP w h → (K w.params).In h)
    (F : ∀ (w : World) (mg : Str → Option Value) (fa : Addr) (h : Heap), (K w.params).In h → h.Ns mainGlobals mg → mg d.name = some (.ref fa) →
      ∃ (c : Ad) (fd : FuncData), (∀ (s : Shared) (u : Value), BindsTo s fd ⟨[u], []⟩ [("_law_script", u)]) ∧ ∀ base : Heap, (K w.params).In base → base.Ns mainGlobals mg → FnG l.prog w (K w.params) mg base CX0 6 fa fd ["_law_script"] (sp_law (K w.params) c)) :
    PySem.W.WalkO q loose XP YP l.row.toRowW d [] (fun f vs => PySem.call f vs) :=
  walk_ofG (n := 63) (k := 6) (x := "_law_script") (CX := fun _ => CX0) (sp := fun w => spL (K w.params)) hn (by decide) hdf ⟨rfl, by decide, by decide⟩ hY
    (fun w mg fa h a b c => by
      obtain ⟨ad, fd, h1, h2⟩ := F w mg fa h a b c
      exact ⟨fd, h1, h2⟩) (fun _ _ a ns hl _ hS => ⟨a, ns, rfl, hS, hl, fun _ => rfl⟩) fun _ _ _ _ _ z => z
end Nk79

open PySem PySem.W PyProof.Rows in
set_option maxRecDepth 100000 in
set_option maxHeartbeats 0 in
theorem PySem.Challenge.cw_nightpaper_k79_texts_packed_holds : PySem.Challenge.rw_nightpaper_k79_texts_packed.Holds := by
  w_on; o_law; k_head; (case hw => w_witness2)
  k_fill
  refine Nk79.walk (l := PySem.Challenge.rw_nightpaper_k79_texts_packed) rfl rfl (fun w h Y => PySem.W.kIn_of Y) ?F
  case F =>
    intro w mg fa h KX G hmg
    refine' Nk79.all_mk KX G hmg ?a_packed ?a_plain_signs ?a_text_in ?a_unpacked ?a__law_held ?a__law_take ?a__law_text ?a__law_packed ?a__law_unpacked ?a__law_told ?a__law_bent ?a_law ?a_NightError ?a_NoText ?a_NoCopy ?a_NoDeed ?a_NoRow ?l_packed ?c_packed ?k_packed ?l_plain_signs ?c_plain_signs ?k_plain_signs ?l_text_in ?c_text_in ?k_text_in ?l_unpacked ?c_unpacked ?k_unpacked ?l__law_held ?c__law_held ?k__law_held ?l__law_take ?c__law_take ?k__law_take ?l__law_text ?c__law_text ?k__law_text ?l__law_packed ?c__law_packed ?k__law_packed ?l__law_unpacked ?c__law_unpacked ?k__law_unpacked ?l__law_told ?c__law_told ?k__law_told ?l__law_bent ?c__law_bent ?k__law_bent ?l_law ?c_law ?k_law ?fi_NoTextD_initD ?ft_NoTextD_initD ?l_NoTextD_initD ?c_NoTextD_initD ?k_NoTextD_initD ?z_ValueError ?z_any ?z_isinstance ?z_len ?z_list ?z_range ?z_repr ?z_str ?g_EMPTY ?bs_NightError ?br_NightError ?bi_NightError ?xl_NoText ?xr_NoText ?xs_NoText ?xe_NoText ?xt_NoText ?xk_NoText ?eg_NoText ?ek_NoText ?ed_NoText ?ea_NoText ?en_NoText ?et_NoText ?em_NoText ?no_NoText_row ?a_PACKED ?dl_PACKED ?dz_PACKED ?dx0_PACKED ?dx1_PACKED ?dx2_PACKED ?dx3_PACKED ?dx4_PACKED ?a_MARKED ?dl_MARKED ?dz_MARKED ?dx0_MARKED ?dx1_MARKED ?dx2_MARKED ?mm_NoText_NightError ?kk_NoText_NoText ?kk_NoText_ValueError ?kk_NoText_NoCopy ?kk_NoText_NoDeed ?kk_NoText_NoRow
    (case a_packed => k_is)
    (case a_plain_signs => k_is)
    (case a_text_in => k_is)
    (case a_unpacked => k_is)
    (case a__law_held => k_is)
    (case a__law_take => k_is)
    (case a__law_text => k_is)
    (case a__law_packed => k_is)
    (case a__law_unpacked => k_is)
    (case a__law_told => k_is)
    (case a__law_bent => k_is)
    (case a_law => k_is)
    (case a_NightError => k_is)
    (case a_NoText => k_is)
    (case a_NoCopy => k_is)
    (case a_NoDeed => k_is)
    (case a_NoRow => k_is)
    (case l_packed => k_is)
    (case c_packed => k_is)
    (case k_packed => k_is)
    (case l_plain_signs => k_is)
    (case c_plain_signs => k_is)
    (case k_plain_signs => k_is)
    (case l_text_in => k_is)
    (case c_text_in => k_is)
    (case k_text_in => k_is)
    (case l_unpacked => k_is)
    (case c_unpacked => k_is)
    (case k_unpacked => k_is)
    (case l__law_held => k_is)
    (case c__law_held => k_is)
    (case k__law_held => k_is)
    (case l__law_take => k_is)
    (case c__law_take => k_is)
    (case k__law_take => k_is)
    (case l__law_text => k_is)
    (case c__law_text => k_is)
    (case k__law_text => k_is)
    (case l__law_packed => k_is)
    (case c__law_packed => k_is)
    (case k__law_packed => k_is)
    (case l__law_unpacked => k_is)
    (case c__law_unpacked => k_is)
    (case k__law_unpacked => k_is)
    (case l__law_told => k_is)
    (case c__law_told => k_is)
    (case k__law_told => k_is)
    (case l__law_bent => k_is)
    (case c__law_bent => k_is)
    (case k__law_bent => k_is)
    (case l_law => k_is)
    (case c_law => k_is)
    (case k_law => k_is)
    (case fi_NoTextD_initD => k_is)
    (case ft_NoTextD_initD => k_is)
    (case l_NoTextD_initD => k_is)
    (case c_NoTextD_initD => k_is)
    (case k_NoTextD_initD => k_is)
    (case z_ValueError => k_is)
    (case z_any => k_is)
    (case z_isinstance => k_is)
    (case z_len => k_is)
    (case z_list => k_is)
    (case z_range => k_is)
    (case z_repr => k_is)
    (case z_str => k_is)
    (case g_EMPTY => k_is)
    (case bs_NightError => k_is)
    (case br_NightError => k_is)
    (case bi_NightError => k_is)
    (case xl_NoText => k_is)
    (case xr_NoText => first | rfl | decide +kernel | k_is)
    (case xs_NoText => k_is)
    (case xe_NoText => k_is)
    (case xt_NoText => k_is)
    (case xk_NoText => k_is)
    (case eg_NoText => k_is)
    (case ek_NoText => k_is)
    (case ed_NoText => k_is)
    (case ea_NoText => k_is)
    (case en_NoText => k_is)
    (case et_NoText => k_is)
    (case em_NoText => k_is)
    (case no_NoText_row => k_is)
    (case a_PACKED => k_is)
    (case dl_PACKED => k_is)
    (case dz_PACKED => first | rfl | decide +kernel | k_is)
    (case dx0_PACKED => first | rfl | decide +kernel | k_is)
    (case dx1_PACKED => first | rfl | decide +kernel | k_is)
    (case dx2_PACKED => first | rfl | decide +kernel | k_is)
    (case dx3_PACKED => first | rfl | decide +kernel | k_is)
    (case dx4_PACKED => first | rfl | decide +kernel | k_is)
    (case a_MARKED => k_is)
    (case dl_MARKED => k_is)
    (case dz_MARKED => first | rfl | decide +kernel | k_is)
    (case dx0_MARKED => first | rfl | decide +kernel | k_is)
    (case dx1_MARKED => first | rfl | decide +kernel | k_is)
    (case dx2_MARKED => first | rfl | decide +kernel | k_is)
    (case mm_NoText_NightError => first | k_is | rfl)
    (case kk_NoText_NoText => first | k_is | rfl)
    (case kk_NoText_ValueError => first | k_is | rfl)
    (case kk_NoText_NoCopy => first | k_is | rfl)
    (case kk_NoText_NoDeed => first | k_is | rfl)
    (case kk_NoText_NoRow => first | k_is | rfl)
#print axioms PySem.Challenge.cw_nightpaper_k79_texts_packed_holds
