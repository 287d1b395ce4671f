import PyProof.Rows.All
import Wide.All
import OpenK.AllK
import Wide.FinOn
import HandS.ForMost
import HandS.IsInst
import HandS.Defaults
import HandS.FStr
import HandS.StrMore
import HandS.Flow
import HandS.More
import HandS.Walk
import PySem.Challenge.RW_nightpaper_k01_names_and_hours
set_option Elab.async false
set_option linter.all false
set_option maxRecDepth 100000
set_option maxHeartbeats 4000000
namespace Np
open PySem L2

/-! ### a def as it is called -/
structure OkF (P : Program) (w : World) (K : PySem.W.Frag) (mg : Str → Option Value) (base : Heap) (CX : CXT) (k : Nat) (x : Str) (ps : List Str) (sp : Sp) (f : Addr) (fd : FuncData) : Prop where
  ok : FnOk P w K mg base CX k f fd ps sp
  m : mg x = some (.ref f)
  kp : PySem.W.keepIn K (.ref f) = true

def Glb (mg : Str → Option Value) (x : Str) (v : V) : Prop := ∃ u, mg x = some u ∧ RelV v u

section
variable {X : Cx} {k n : Nat} {f : Addr} {fd : FuncData} {ps ks : List Str} {sp : Sp} {x : Str} {p pos : Pos} {e : Expr} {es : List Expr} {kws : List Keyword} {t tk : TA} {v : V}
theorem pe_g (h : Glb X.mg x v) (hg : Gl X x := by rfl) (hd : (x == ("__debug__" : Str)) = false := by decide) : PE X (.Name x pos) (tC v) := by
  obtain ⟨u, hm, r⟩ := h
  exact pe_glob hg hm r hd
/-- f(e, ..), no defaults -/
theorem pe_f (O : OkF X.prog X.w X.K X.mg X.base CX0 k x ps sp f fd) (b : Binds X.K fd ps []) (hr : Room k X.A) (hx : Passes CX0 X E0) (ha : PA X (e :: es) t) (hg : Gl X x := by rfl)
    (hdb : (x == ("__debug__" : Str)) = false := by decide) (he : starEach (e :: es) X.env = (false, eval e X.env) :: starEach es X.env := by rfl) (hpl : (backTo pos (starEach es X.env)).any (·.1) = false := by rfl) :
    PE X (.Call (.Name x p) (e :: es) [] pos) (tCall sp [] E0 t) := pe_call O.ok hr hg O.m O.kp b .nil hx ha hdb he hpl
theorem pe_f0 (O : OkF X.prog X.w X.K X.mg X.base CX0 k x ps sp f fd) (b : Binds X.K fd ps []) (hr : Room k X.A) (hx : Passes CX0 X E0) (hg : Gl X x := by rfl)
    (hdb : (x == ("__debug__" : Str)) = false := by decide) : PE X (.Call (.Name x p) [] [] pos) (tCall sp [] E0 tNil) := pe_call0 O.ok hr hg O.m O.kp b .nil hx hdb
/-- f(e, ..), the rest by defaults -/
theorem pe_fD {dvs : List V} (O : OkF X.prog X.w X.K X.mg X.base CX0 k x ps sp f fd) (b : ∃ ds, Vals dvs ds ∧ Binds X.K fd ps ds) (hr : Room k X.A) (hx : Passes CX0 X E0) (ha : PA X (e :: es) t) (hg : Gl X x := by rfl)
    (hdb : (x == ("__debug__" : Str)) = false := by decide) (he : starEach (e :: es) X.env = (false, eval e X.env) :: starEach es X.env := by rfl) (hpl : (backTo pos (starEach es X.env)).any (·.1) = false := by rfl) :
    PE X (.Call (.Name x p) (e :: es) [] pos) (tCall sp dvs E0 t) := by
  obtain ⟨ds, hv, hb⟩ := b
  exact pe_call O.ok hr hg O.m O.kp hb hv hx ha hdb he hpl
def KB (K : PySem.W.Frag) (fd : FuncData) (ps : List Str) (n : Nat) (ks : List Str) (gV : List V → List V → List V) : Prop := ∃ g, KBn K fd ps n ks g gV
theorem pe_fK {gV : List V → List V → List V} (O : OkF X.prog X.w X.K X.mg X.base CX0 k x ps sp f fd) (b : KB X.K fd ps n ks gV) (hr : Room k X.A) (hx : Passes CX0 X E0)
    (ha : PA X (e :: es) t) (hkw : PK X kws tk) (hg : Gl X x := by rfl) (hall : (backToKw pos (keywordEach kws X.env)).all (·.1.isSome) = true := by rfl) (hks : (backToKw pos (keywordEach kws X.env)).filterMap (·.1) = ks := by rfl)
    (hdb : (x == ("__debug__" : Str)) = false := by decide) (he : starEach (e :: es) X.env = (false, eval e X.env) :: starEach es X.env := by rfl)
    (hpl : ((backTo pos (starEach (e :: es) X.env)).any (·.1) || (backToKw pos (keywordEach kws X.env)).any (·.1.isNone)) = false := by rfl) :
    PE X (.Call (.Name x p) (e :: es) kws pos) (tCallN n ks.length sp gV E0 t tk) := by
  obtain ⟨g, hb⟩ := b
  exact pe_callN O.ok hr hg O.m O.kp hb hx ha hkw hall hks hdb he hpl
theorem pe_fK0 {gV : List V → List V → List V} (O : OkF X.prog X.w X.K X.mg X.base CX0 k x ps sp f fd) (b : KB X.K fd ps 0 ks gV) (hr : Room k X.A) (hx : Passes CX0 X E0)
    (hkw : PK X kws tk) (hg : Gl X x := by rfl) (hall : (backToKw pos (keywordEach kws X.env)).all (·.1.isSome) = true := by rfl) (hks : (backToKw pos (keywordEach kws X.env)).filterMap (·.1) = ks := by rfl)
    (hdb : (x == ("__debug__" : Str)) = false := by decide)
    (hpl : ((backTo pos (starEach [] X.env)).any (·.1) || (backToKw pos (keywordEach kws X.env)).any (·.1.isNone)) = false := by rfl) :
    PE X (.Call (.Name x p) [] kws pos) (tCallN 0 ks.length sp gV E0 tNil tk) := by
  obtain ⟨g, hb⟩ := b
  refine ⟨fun pins s σ H Q I h => ?_⟩
  refine wpAny_Call_Name_kw (ld_glob I hg O.m ?_ hdb)
  refine PySem.W.callWith_KW0 (h₀ := X.base) I.ok.mod.kin O.kp hall ?_ hpl
  refine L2.thn (hkw.run pos pins s σ H _ I h) fun ws s2 ⟨zs, H2, I2, rz, l1, l2, q2⟩ => ⟨I2.kIn, ?_⟩
  rw [hks]
  exact run_fnN (us := []) (vs := []) O.ok hr hb hx I2 .nil rz l1 l2 q2
end
theorem Fun.kb {K : PySem.W.Frag} {x qual : Str} {st : Stmt} {f : Addr} {fd : FuncData} {ps : List Str} (F : Fun K x qual st f fd) (n : Nat) (ks : List Str) (g : {α : Type} → List α → List α → List α)
    (hrel : ∀ {vs zs : List V} {us ws : List Value}, Vals vs us → Vals zs ws → Vals (g vs zs) (g us ws))
    (h : ∀ (kV doc pm : Value) (an : Option Addr) (cdv ct : Value) (us ws : List Value), us.length = n → ws.length = ks.length → bindArgs (PySem.W.fnOf x qual (defArgs st) (defBody st) (defScope st) .none kV doc pm an cdv ct) ⟨us, ks.zip ws⟩ = pure (ps.zip (g us ws))) : KB K fd ps n ks g := by
  obtain ⟨oc, od, kV, doc, pm, an, cdv, ct, osl, rfl, lk, hcd⟩ := F.ex
  exact ⟨fun us ws => g us ws, ⟨fun s us ws X l1 l2 => .of_eq (h kV doc pm an cdv ct us ws l1 l2), fun r1 r2 => hrel r1 r2⟩⟩

/-! ### heaps: what stays -/
theorem same_new {H : Hp} {p : Addr} {o : HO} (h : H p = none) : Same H (upd H p o) := fun a u e => by
  rw [upd_ne (ne_of_none e h)]
  exact e
theorem same_mut {G H : Hp} {p : Addr} {o : HO} (e : Same G H) (h : G p = none) : Same G (upd H p o) := fun a u ha => by
  rw [upd_ne (ne_of_none ha h)]
  exact e a u ha
theorem same_both {G H : Hp} {p : Addr} {o : HO} (e : Same G H) : Same (upd G p o) (upd H p o) := fun a u ha => by
  by_cases hp : a = p
  · subst hp
    rw [upd_same] at ha
    rw [upd_same]
    exact ha
  · rw [upd_ne hp] at ha
    rw [upd_ne hp]
    exact e a u ha

/-! ### list(text) -/
theorem call_listS {X : Cx} (hc : X.calm = true) : CallR X (.type "list") (fun xs H Q => ∃ z : Str, xs = [.str z] ∧ z.length ≤ sizeLine ∧ ∀ q, H q = none → Q (.ref q) (upd H q (.lst (z.cps.toList.map fun c => V.str ⟨#[c]⟩)))) := by
  intro pins s σ H xs us Q I r h
  obtain ⟨z, rfl, hz, q⟩ := h
  obtain ⟨u, rfl, t, rfl⟩ := vals1 r
  refine PySem.call_list_str (I.ok.hd hc) z t (fun h' tk acc c' hk e hi => ?_) hz
  refine ⟨.ref s.heap.objs.size, upd H s.heap.objs.size (.lst (z.cps.toList.map fun c => V.str ⟨#[c]⟩)), I.laid hk (Nat.le_refl _) ⟨by rw [List.length_map, Array.length_toList]; exact hz, acc.toList, c', ?_, by rw [Array.toArray_toList]; exact e⟩, rfl, q _ (I.hok.fresh (Nat.le_refl _))⟩
  refine vals_of_idx _ _ (by rw [List.length_map, Array.length_toList, Array.length_toList]; exact hi.1) fun j u hj => ?_
  obtain ⟨c, t', hc, rfl⟩ := hi.2 j u (by rw [← Array.getElem?_toList]; exact hj)
  exact ⟨.str ⟨#[c]⟩, by simp [hc], ⟨_, rfl⟩⟩
end Np
namespace Np
open PySem L2
/-- what follows a statement, once for all its ways -/
theorem seq_have {t rest : TS} {D : Ends} {σ : St} {H : Hp} (Mid : St → Hp → Prop) (h2 : ∀ σ H, Mid σ H → rest D σ H) (h1 : (∀ σ H, Mid σ H → rest D σ H) → tSeq t rest D σ H) : tSeq t rest D σ H := h1 h2
theorem asgc_step {v : V} {i : Nat} {rest : TS} {D : Ends} {σ : St} {H : Hp} (h : rest D (σ.set i (some v)) H) : tSeq (tAsg (tC v) (gName i)) rest D σ H := h
theorem dp_ints {K : PySem.W.Frag} {H : Hp} : ∀ ns : List Int, DpAll K H (ns.map V.int) (ns.map PyData.int)
  | [] => .nil
  | n :: ns => .cons (.int n) (dp_ints ns)
/-- data that can be held beside others: k the depth -/
def Fine (k : Nat) (d : PyData) : Prop := PyData.canLay0 d = true ∧ PyData.depth d ≤ k
theorem canLayAll_of : ∀ {ds : List PyData}, (∀ d ∈ ds, PyData.canLay0 d = true) → PyData.canLayAll0 ds = true
  | [], _ => rfl
  | d :: ds, h => by
    show (PyData.canLay0 d && PyData.canLayAll0 ds) = true
    rw [h d List.mem_cons_self, canLayAll_of fun x hx => h x (List.mem_cons_of_mem _ hx)] <;> rfl
theorem depthAll_of {k : Nat} : ∀ {ds : List PyData}, (∀ d ∈ ds, PyData.depth d ≤ k) → PyData.depthAll ds ≤ k
  | [], _ => Nat.zero_le _
  | d :: ds, h => by
    show max (PyData.depth d) (PyData.depthAll ds) ≤ k
    exact Nat.max_le.mpr ⟨h d List.mem_cons_self, depthAll_of fun x hx => h x (List.mem_cons_of_mem _ hx)⟩
theorem Fine.list {k : Nat} {ds : List PyData} (h : ∀ d ∈ ds, Fine k d) : Fine (k + 1) (.list ds) := ⟨canLayAll_of fun d hd => (h d hd).1, Nat.succ_le_succ (depthAll_of fun d hd => (h d hd).2)⟩
theorem Fine.tuple {k : Nat} {ds : List PyData} (h : ∀ d ∈ ds, Fine k d) : Fine (k + 1) (.tuple ds) := ⟨canLayAll_of fun d hd => (h d hd).1, Nat.succ_le_succ (depthAll_of fun d hd => (h d hd).2)⟩
theorem Fine.int (i : Int) : Fine 0 (.int i) := ⟨rfl, Nat.le_refl _⟩
theorem Fine.bool (b : Bool) : Fine 0 (.bool b) := ⟨rfl, Nat.le_refl _⟩
theorem Fine.none : Fine 0 .none := ⟨rfl, Nat.le_refl _⟩
theorem Fine.str {x : Str} (h : PyData.strOk x = true) : Fine 0 (.str x) := ⟨h, Nat.le_refl _⟩
theorem Fine.mono {j k : Nat} {d : PyData} (h : Fine j d) (hk : j ≤ k) : Fine k d := ⟨h.1, Nat.le_trans h.2 hk⟩
theorem Fine.shaped {k : Nat} {d : PyData} (h : Fine k d) (hk : k ≤ 64 := by decide) : SeqAt.shaped d = true := by
  unfold SeqAt.shaped
  rw [h.1, decide_eq_true (Nat.le_trans h.2 hk)] <;> rfl
theorem fine_ints (ns : List Int) : Fine 1 (.list (ns.map PyData.int)) := Fine.list fun d hd => by
  obtain ⟨i, _, rfl⟩ := List.mem_map.mp hd
  exact Fine.int i
theorem shaped_ints (ns : List Int) : SeqAt.shaped (.list (ns.map PyData.int)) = true := (fine_ints ns).shaped
theorem eqv_nil (ds : List PyData) : PyData.eqv (.list ds) (.list []) = ds.isEmpty := by
  cases ds <;> rfl
theorem atI_mod {ns : List Int} {i : Int} (h0 : 0 ≤ i) (h1 : i < ns.length) : ∃ v, atI (ns.map V.int) i = some (.int v) := by
  obtain ⟨j, rfl⟩ := Int.eq_ofNat_of_zero_le h0
  have hj : j < ns.length := by omega
  exact ⟨ns[j], atI_nat (by rw [List.getElem?_map, List.getElem?_eq_getElem hj] <;> rfl)⟩
end Np
namespace Np
open PySem L2
/-! ### kinds of things -/
/-- a thing of a built-in kind -/
def Th (H : Hp) (v : V) : Prop := v = .non ∨ (∃ b, v = .bl b) ∨ (∃ i, v = .int i) ∨ (∃ x, v = .str x) ∨ (∃ a xs, v = .ref a ∧ H a = some (.lst xs)) ∨ (∃ a xs, v = .ref a ∧ H a = some (.tup xs)) ∨ (∃ a kvs, v = .ref a ∧ H a = some (.dK kvs))
theorem Th.mono {G H : Hp} {v : V} (s : Same G H) (h : Th G v) : Th H v := by
  rcases h with h | h | h | h | ⟨a, xs, e, h⟩ | ⟨a, xs, e, h⟩ | ⟨a, xs, e, h⟩
  · exact .inl h
  · exact .inr (.inl h)
  · exact .inr (.inr (.inl h))
  · exact .inr (.inr (.inr (.inl h)))
  · exact .inr (.inr (.inr (.inr (.inl ⟨a, xs, e, s _ _ h⟩))))
  · exact .inr (.inr (.inr (.inr (.inr (.inl ⟨a, xs, e, s _ _ h⟩)))))
  · exact .inr (.inr (.inr (.inr (.inr (.inr ⟨a, xs, e, s _ _ h⟩)))))
theorem Th.bl {H : Hp} (b : Bool) : Th H (.bl b) := .inr (.inl ⟨b, rfl⟩)
theorem Th.int {H : Hp} (i : Int) : Th H (.int i) := .inr (.inr (.inl ⟨i, rfl⟩))
theorem Th.str {H : Hp} (x : Str) : Th H (.str x) := .inr (.inr (.inr (.inl ⟨x, rfl⟩)))
theorem Th.lst {H : Hp} {a : Addr} {xs : List V} (h : H a = some (.lst xs)) : Th H (.ref a) := .inr (.inr (.inr (.inr (.inl ⟨a, xs, rfl, h⟩))))
theorem Th.tup {H : Hp} {a : Addr} {xs : List V} (h : H a = some (.tup xs)) : Th H (.ref a) := .inr (.inr (.inr (.inr (.inr (.inl ⟨a, xs, rfl, h⟩)))))
theorem Th.dK {H : Hp} {a : Addr} {xs : List (Key × V)} (h : H a = some (.dK xs)) : Th H (.ref a) := .inr (.inr (.inr (.inr (.inr (.inr ⟨a, xs, rfl, h⟩)))))
/-- isinstance by int, bool, str -/
def isK (c : String) : V → Bool
  | .str _ => c == "str"
  | .int _ => c == "int"
  | .bl _ => c == "bool" || c == "int"
  | _ => false
theorem isi_of {K : PySem.W.Frag} {H : Hp} {v : V} (h : Th H v) (c : String) (hc : c = "int" ∨ c = "str" ∨ c = "bool") : ∃ t, TyX K H v t ∧ PySem.W.kitOne K t (.type c) = some (isK c v) := by
  rcases h with rfl | ⟨b, rfl⟩ | ⟨i, rfl⟩ | ⟨x, rfl⟩ | ⟨a, xs, rfl, h⟩ | ⟨a, xs, rfl, h⟩ | ⟨a, xs, rfl, h⟩
  · exact ⟨_, .base .non, by rcases hc with rfl | rfl | rfl <;> exact kit_ty (by first | (show kitB _ _ = some true; decide +kernel) | (show kitB _ _ = some false; decide +kernel))⟩
  · exact ⟨_, .base (.bl b), by rcases hc with rfl | rfl | rfl <;> exact kit_ty (by first | (show kitB _ _ = some true; decide +kernel) | (show kitB _ _ = some false; decide +kernel))⟩
  · exact ⟨_, .base (.int i), by rcases hc with rfl | rfl | rfl <;> exact kit_ty (by first | (show kitB _ _ = some true; decide +kernel) | (show kitB _ _ = some false; decide +kernel))⟩
  · exact ⟨_, .base (.str x), by rcases hc with rfl | rfl | rfl <;> exact kit_ty (by first | (show kitB _ _ = some true; decide +kernel) | (show kitB _ _ = some false; decide +kernel))⟩
  · exact ⟨_, .base (.lst h), by rcases hc with rfl | rfl | rfl <;> exact kit_ty (by first | (show kitB _ _ = some true; decide +kernel) | (show kitB _ _ = some false; decide +kernel))⟩
  · exact ⟨_, .base (.tup h), by rcases hc with rfl | rfl | rfl <;> exact kit_ty (by first | (show kitB _ _ = some true; decide +kernel) | (show kitB _ _ = some false; decide +kernel))⟩
  · exact ⟨_, .base (.dK h), by rcases hc with rfl | rfl | rfl <;> exact kit_ty (by first | (show kitB _ _ = some true; decide +kernel) | (show kitB _ _ = some false; decide +kernel))⟩
theorem isK_str {v : V} (h : isK "str" v = true) : ∃ x, v = .str x := by
  cases v with
  | str x => exact ⟨x, rfl⟩
  | _ => exact absurd h (by first | exact Bool.false_ne_true | decide)
theorem isK_int {v : V} (h : isK "int" v = true) (h' : isK "bool" v = false) : ∃ i, v = .int i := by
  cases v with
  | int x => exact ⟨x, rfl⟩
  | bl b => exact absurd (show true = false from h') (by decide)
  | _ => exact absurd h (by first | exact Bool.false_ne_true | decide)
/-- a turn of a comprehension adds a value -/
theorem lc_add {H1 H H4 : Hp} {D : Addr} {acc : List V} {y : V} {Pv : Hp → Prop} (hD : H1 D = none) (s : Same H1 H) (s' : Same H H4) (h : H D = some (.lst acc)) (hl : acc.length < sizeLine)
    (k : Same H1 (upd H4 D (.lst (acc ++ [y]))) → (upd H4 D (.lst (acc ++ [y]))) D = some (.lst (acc ++ [y])) → Pv (upd H4 D (.lst (acc ++ [y])))) : ∃ acc, H4 D = some (.lst acc) ∧ acc.length < sizeLine ∧ Pv (upd H4 D (.lst (acc ++ [y]))) :=
  ⟨acc, s' _ _ h, hl, k (same_mut (s.trans s') hD) upd_same⟩
theorem take_succ_map {α β : Type} (f : α → β) {xs : List α} {i : Nat} {x : α} (h : xs[i]? = some x) : (xs.take (i + 1)).map f = (xs.take i).map f ++ [f x] := by
  rw [List.take_add_one, h, List.map_append] <;> rfl
theorem take_succ_filter {α : Type} (p : α → Bool) {xs : List α} {i : Nat} {x : α} (h : xs[i]? = some x) : (xs.take (i + 1)).filter p = (xs.take i).filter p ++ (if p x = true then [x] else []) := by
  rw [List.take_add_one, h, List.filter_append]
  show _ ++ List.filter p [x] = _
  rw [List.filter_cons, List.filter_nil]
theorem cutV_ints (ns : List Int) (lo hi : Option Int) : ∃ ms : List Int, cutV (ns.map V.int) lo hi = ms.map V.int := by
  unfold cutV
  rw [← List.map_drop, ← List.map_take]
  exact ⟨_, rfl⟩
theorem in_signs (c : Nat) (cs : List Nat) : inV (.str ⟨#[c]⟩) (cs.map fun c => V.str ⟨#[c]⟩) = decide (c ∈ cs) := by
  unfold inV
  induction cs with
  | nil => rfl
  | cons d cs ih =>
    rw [List.map_cons, List.any_cons, ih]
    show ((⟨#[d]⟩ : Str) == (⟨#[c]⟩ : Str) || _) = _
    by_cases h : c = d
    · subst h
      simp
    · have h2 : ((⟨#[d]⟩ : Str) == (⟨#[c]⟩ : Str)) = false := by
        rw [beq_eq_false_iff_ne]
        intro e
        injection e with e
        injection e with e
        injection e with e
        exact h e.symm
      rw [h2, Bool.false_or]
      by_cases h3 : c ∈ cs
      · rw [decide_eq_true h3, decide_eq_true (List.mem_cons_of_mem _ h3)]
      · rw [decide_eq_false h3, decide_eq_false (fun z => by exact (List.mem_cons.mp z).elim h h3)]
theorem flat_signs (cs : List Nat) : (cs.map fun c => V.str ⟨#[c]⟩).all flatV = true := by
  rw [List.all_map]
  exact List.all_eq_true.mpr fun _ _ => rfl
theorem len_add (x y : Str) : (x ++ y).length = x.length + y.length := by
  show (x.cps ++ y.cps).size = _
  rw [Array.size_append] <;> rfl
theorem len_cut (z : Str) (lo hi : Option Int) : (cutS z lo hi).length ≤ z.length := by
  unfold cutS
  show (List.toArray _).size ≤ _
  rw [List.size_toArray, List.length_take, List.length_drop, Array.length_toList]
  show _ ≤ z.cps.size
  omega
end Np
namespace Np
open PySem L2
/-! ### rules whose readings name the written part, the part written out (for a comprehension's block) -/
section
variable {X : Cx} (K : PySem.W.Frag)
theorem op_in_seqK (h : X.K = K := by rfl) : OpR X (compareOp .In) (rIn K false) := by subst h; exact op_in_seq
theorem op_notIn_seqK (h : X.K = K := by rfl) : OpR X (compareOp .NotIn) (rIn K true) := by subst h; exact op_notIn_seq
theorem op_eqDK (hu : X.A.units + 64 < cLine) (h : X.K = K := by rfl) : OpR X (compareOp .Eq) (rEqD K) := by subst h; exact op_eqD hu
theorem op_neDK (hu : X.A.units + 64 < cLine) (h : X.K = K := by rfl) : OpR X (compareOp .NotEq) (rNeD K) := by subst h; exact op_neD hu
theorem op_catTK (h : X.K = K := by rfl) : OpR X (binaryOp .Add) (rCatT K) := by subst h; exact op_catT
theorem ix_listK (h : X.K = K := by rfl) : IxR X (rIxL K) := by subst h; exact ix_list
theorem ix_tupK (h : X.K = K := by rfl) : IxR X (rIxT K) := by subst h; exact ix_tup
theorem sl_listK (h : X.K = K := by rfl) : SlR X (rSlL K) := by subst h; exact sl_list
theorem sl_tupK (h : X.K = K := by rfl) : SlR X (rSlT K) := by subst h; exact sl_tup
def rLenK : List V → Hp → VK → Prop := fun xs H Q => ∃ p ys, xs = [.ref p] ∧ (SqL K H p ys ∨ SqT K H p ys) ∧ Q (.int ys.length) H
theorem call_lenK (h : X.K = K := by rfl) : CallR X (.builtin "len") (rLenK K) := by subst h; exact call_len_seq
def rListK : List V → Hp → VK → Prop := fun xs H Q => ∃ p ys, xs = [.ref p] ∧ (SqL K H p ys ∨ SqT K H p ys) ∧ ∀ l, H l = none → Q (.ref l) (upd H l (.lst ys))
theorem call_listK (h : X.K = K := by rfl) : CallR X (.type "list") (rListK K) := by subst h; exact call_list_of
def rTupleK : List V → Hp → VK → Prop := fun xs H Q => ∃ p ys, xs = [.ref p] ∧ ((SqL K H p ys ∧ ∀ l, H l = none → Q (.ref l) (upd H l (.tup ys))) ∨ (SqT K H p ys ∧ Q (.ref p) H))
theorem call_tupleK (h : X.K = K := by rfl) : CallR X (.type "tuple") (rTupleK K) := by subst h; exact call_tuple_of
theorem cr_sumK (hc : X.calm = true) (h : X.K = K := by rfl) : CallR X (.builtin "sum") (rSum K) := by subst h; exact cr_sum hc
theorem cr_maxK (hc : X.calm = true) (h : X.K = K := by rfl) : CallR X (.builtin "max") (rMax K) := by subst h; exact cr_max hc
theorem cr_minK (hc : X.calm = true) (h : X.K = K := by rfl) : CallR X (.builtin "min") (rMin K) := by subst h; exact cr_min hc
theorem cr_allK (hc : X.calm = true) (h : X.K = K := by rfl) : CallR X (.builtin "all") (rAll K) := by subst h; exact cr_all hc
theorem cr_anyK (hc : X.calm = true) (h : X.K = K := by rfl) : CallR X (.builtin "any") (rAny K) := by subst h; exact cr_any hc
theorem call_isiKK (h : X.K = K := by rfl) : CallR X (.builtin "isinstance") (rIsi K) := by subst h; exact call_isi
theorem call_isiTK (h : X.K = K := by rfl) : CallR X (.builtin "isinstance") (rIsiT K) := by subst h; exact call_isiT
theorem pi_listK {tg l : Expr} {tl : TE} (hl : PE X l tl) (h : X.K = K := by rfl) : PI X tg l (iList K tl) := by subst h; exact pi_list hl
theorem pi_tupK {tg l : Expr} {tl : TE} (hl : PE X l tl) (h : X.K = K := by rfl) : PI X tg l (iTup K tl) := by subst h; exact pi_tup hl
theorem pi_enumK {e : Expr} {ta : TA} {p pos tpos : Pos} {elts : List Expr} {kk : Nat} (hg : Gl X "enumerate") (hm : X.mg "enumerate" = none) (ha : PA X [e] ta) (hs : starEach [e] X.env = [(false, eval e X.env)] := by rfl) (h : X.K = K := by rfl) :
    PI X (.Tuple elts kk tpos) (.Call (.Name "enumerate" p) [e] [] pos) (iEnum K ta) := by subst h; exact pi_enum hg hm ha hs
theorem pi_zipK {e e2 : Expr} {ta : TA} {p pos tpos : Pos} {elts : List Expr} {kk : Nat} (hg : Gl X "zip") (hm : X.mg "zip" = none) (ha : PA X [e, e2] ta)
    (hs : starEach [e, e2] X.env = (false, eval e X.env) :: starEach [e2] X.env := by rfl) (hpl : (backTo pos (starEach [e2] X.env)).any (·.1) = false := by rfl) (h : X.K = K := by rfl) :
    PI X (.Tuple elts kk tpos) (.Call (.Name "zip" p) [e, e2] [] pos) (iZip K ta) := by subst h; exact pi_zip hg hm ha hs hpl
theorem pi_reversedK {tg e : Expr} {ta : TA} {p pos : Pos} (hg : Gl X "reversed") (hm : X.mg "reversed" = none) (ha : PA X [e] ta) (hs : starEach [e] X.env = [(false, eval e X.env)] := by rfl) (h : X.K = K := by rfl) :
    PI X tg (.Call (.Name "reversed" p) [e] [] pos) (iRev K ta) := by subst h; exact pi_reversed hg hm ha hs
theorem pg_tupK {es : List Expr} {k n : Nat} {t : TGs} {pos : Pos} (hc : X.calm = true) (h' : PGs X es t)
    (hn : (assignEach es X.env).length = n := by rfl) (hst : (assignEach es X.env).findIdx? (·.1) = none := by rfl) (h : X.K = K := by rfl) : PG X (.Tuple es k pos) (gTup K n t) := by subst h; exact pg_tup hc h' hn hst
def rJoinK : V → List V → Hp → VK → Prop := fun x xs H Q => ∃ a p, ∃ ys : List Str, x = .str a ∧ xs = [.ref p] ∧ (SqL K H p (ys.map V.str) ∨ SqT K H p (ys.map V.str)) ∧
      (ys.map (·.length)).sum + ys.length * a.length ≤ 16777216 ∧ Q (.str (Txt.join a ys)) H
theorem pe_joinK {o e : Expr} {to te : TE} {apos pos : Pos} (ho : PE X o to) (he : PE X e te) (hs : starEach [e] X.env = [(false, eval e X.env)] := by rfl) (hbase : attributeBase o "join" X.env (eval o X.env) = eval o X.env := by rfl) (hline : (apos.endLine == pos.line) = true := by rfl) (h : X.K = K := by rfl) :
    PE X (.Call (.Attribute o "join" apos) [e] [] pos) (tM1 (rJoinK K) to te) := by subst h; exact pe_join ho he hs hbase hline
theorem pe_bmK {T : String} {name : Str} {id : String} {r : V → List V → Hp → VK → Prop} {o e : Expr} {es : List Expr} {to : TE} {t : TA} {apos cpos : Pos} (pa : PlainAttrs T) (slot : Slot T name id) (hty : typeOf (.builtin id) = pure (.type "method_descriptor")) (hm : MtR X id r) (ho : PE X o to) (ha : PA X (e :: es) t)
    (hbase : attributeBase o name X.env (eval o X.env) = eval o X.env := by rfl)
    (hfew : ((backTo cpos (starEach (e :: es) X.env)).all (fun x => !x.1) && (backToKw cpos (keywordEach [] X.env)).all (fun x => x.1.isSome)
      && decide ((e :: es).length + ([] : List Keyword).length + (if ([] : List Keyword).isEmpty then 0 else 1) < 30)) = true := by rfl)
    (hline : (apos.endLine == cpos.line) = true := by rfl) (hs : starEach (e :: es) X.env = (false, eval e X.env) :: starEach es X.env := by rfl) (hplain : (backTo cpos (starEach es X.env)).any (·.1) = false := by rfl) (h : X.K = K := by rfl) :
    PE X (.Call (.Attribute o name apos) (e :: es) [] cpos) (tBM K T r to t) := by subst h; exact pe_bm pa slot hty hm ho ha hbase hfew hline hs hplain
theorem pe_bm0K {T : String} {name : Str} {id : String} {r : V → List V → Hp → VK → Prop} {o : Expr} {to : TE} {apos cpos : Pos} (pa : PlainAttrs T) (slot : Slot T name id) (hty : typeOf (.builtin id) = pure (.type "method_descriptor")) (hm : MtR X id r) (ho : PE X o to)
    (hbase : attributeBase o name X.env (eval o X.env) = eval o X.env := by rfl) (hline : (apos.endLine == cpos.line) = true := by rfl) (h : X.K = K := by rfl) : PE X (.Call (.Attribute o name apos) [] [] cpos) (tBM0 K T r to) := by subst h; exact pe_bm0 pa slot hty hm ho hbase hline
end
end Np
namespace Np
open PySem L2
/-! ### texts: how long at most, right signs -/
structure Tx (n : Nat) (x : Str) : Prop where
  len : x.length ≤ n
  ok : ∀ c ∈ x.cps.toList, c < 1114112
theorem Tx.strOk {n : Nat} {x : Str} (h : Tx n x) : PyData.strOk x = true := by
  unfold PyData.strOk
  rw [← Array.all_toList]
  exact List.all_eq_true.mpr fun c hc => decide_eq_true (h.ok c hc)
theorem Tx.mono {n m : Nat} {x : Str} (h : Tx n x) (hm : n ≤ m) : Tx m x := ⟨Nat.le_trans h.len hm, h.ok⟩
theorem Tx.add {n m : Nat} {x y : Str} (h : Tx n x) (h' : Tx m y) : Tx (n + m) (x ++ y) := by
  refine ⟨by rw [len_add]; exact Nat.add_le_add h.len h'.len, fun c hc => ?_⟩
  have e : (x ++ y).cps.toList = x.cps.toList ++ y.cps.toList := by
    show (x.cps ++ y.cps).toList = _
    rw [Array.toList_append]
  rw [e] at hc
  rcases List.mem_append.mp hc with q | q
  · exact h.ok c q
  · exact h'.ok c q
theorem Tx.cut {n : Nat} {x : Str} (h : Tx n x) (lo hi : Option Int) : Tx n (cutS x lo hi) := by
  refine ⟨Nat.le_trans (len_cut x lo hi) h.len, fun c hc => ?_⟩
  unfold cutS at hc
  exact h.ok c (List.mem_of_mem_drop (List.mem_of_mem_take hc))
theorem Tx.sign {c : Nat} (h : c < 1114112) : Tx 1 (⟨#[c]⟩ : Str) := ⟨Nat.le_refl _, fun d hd => by
  have e : d = c := List.mem_singleton.mp hd
  rw [e]
  exact h⟩
theorem atI_mem {α : Type} {xs : List α} {i : Int} {v : α} (h : atI xs i = some v) : v ∈ xs := by
  obtain ⟨j, _, hj, _⟩ := atI_get h
  exact List.mem_of_getElem? hj
theorem atI_some {α : Type} {xs : List α} {i : Int} (h0 : 0 ≤ i) (h1 : i < xs.length) : ∃ v, atI xs i = some v ∧ v ∈ xs := by
  obtain ⟨j, rfl⟩ := Int.eq_ofNat_of_zero_le h0
  have hj : j < xs.length := by omega
  exact ⟨xs[j], atI_nat (List.getElem?_eq_getElem hj), List.getElem_mem hj⟩
theorem Tx.at {n : Nat} {x : Str} {i : Int} {c : Nat} (h : Tx n x) (e : atI x.cps.toList i = some c) : Tx 1 (⟨#[c]⟩ : Str) := Tx.sign (h.ok c (atI_mem e))
theorem ofString_ok (s : String) : ∀ c ∈ (Str.ofString s).cps.toList, c < 1114112 := fun c hc => by
  rw [Str.ofString_eq_toList] at hc
  obtain ⟨d, _, rfl⟩ := List.mem_map.mp hc
  have h := d.valid
  have e : d.toNat = d.val.toNat := rfl
  rcases h with h | ⟨_, h⟩ <;> omega
theorem ofString_len (s : String) : (Str.ofString s).length = s.length := by
  rw [Str.ofString_eq_toList]
  show (List.toArray _).size = _
  rw [List.size_toArray, List.length_map, String.length_toList]
theorem Tx.num {i : Int} {k : Nat} (hk : 0 < k) (h : i.natAbs < 10 ^ k) : Tx (k + 1) (Str.ofString (toString i)) :=
  ⟨by rw [ofString_len]; exact int_text_length_le10 hk h, ofString_ok _⟩
theorem Tx.lit {n : Nat} (s : String) (h : (Str.ofString s).length ≤ n) : Tx n (Str.ofString s) := ⟨h, ofString_ok s⟩
theorem dp_strs {K : PySem.W.Frag} {H : Hp} : ∀ xs : List Str, DpAll K H (xs.map V.str) (xs.map PyData.str)
  | [] => .nil
  | x :: xs => .cons (.str x) (dp_strs xs)
theorem fine_strs {xs : List Str} (h : ∀ x ∈ xs, PyData.strOk x = true) : Fine 1 (.list (xs.map PyData.str)) := Fine.list fun d hd => by
  obtain ⟨x, hx, rfl⟩ := List.mem_map.mp hd
  exact Fine.str (h x hx)
end Np
namespace Np
open PySem L2
/-! ### all but one object is as it was -/
def But (t : Addr) (H H' : Hp) : Prop := ∀ b o, b ≠ t → H b = some o → H' b = some o
theorem But.refl {t : Addr} {H : Hp} : But t H H := fun _ _ _ h => h
theorem But.trans {t : Addr} {H H1 H2 : Hp} (a : But t H H1) (b : But t H1 H2) : But t H H2 := fun c o n h => b c o n (a c o n h)
theorem But.of {t : Addr} {H H' : Hp} (s : Same H H') : But t H H' := fun b o _ h => s b o h
theorem But.mut {t : Addr} {H : Hp} {o : HO} : But t H (upd H t o) := fun b u n h => by rw [upd_ne n]; exact h
theorem But.new {t p : Addr} {H : Hp} {o : HO} (n : H p = none) : But t H (upd H p o) := But.of (same_new n)
theorem But.same {t : Addr} {G H H' : Hp} (b : But t H H') (s : Same G H) (g : G t = none) : Same G H' := fun a o h => b a o (ne_of_none h g) (s a o h)
/-- a tape at tp, over what stays (G): its cells, how many were begun (at most n), what is left of a great one -/
def Tape (K : PySem.W.Frag) (G H : Hp) (tp : Addr) (n : Nat) : Prop := Same G H ∧ G tp = none ∧ ∃ (c : Addr) (ns : List Int) (at' left : Int),
  SqL K G c (ns.map V.int) ∧ H tp = some (.lst [.ref c, .int at', .int left]) ∧ 0 ≤ at' ∧ at' ≤ n ∧ 0 ≤ left
section
variable {K : PySem.W.Frag} {G H H' : Hp} {tp p : Addr} {n m : Nat} {o : HO}
theorem Tape.step {c : Addr} {ns : List Int} {a b : Int} (s : Same G H) (g : G tp = none) (hc : SqL K G c (ns.map V.int)) (h0 : 0 ≤ a) (h1 : a ≤ n) (h2 : 0 ≤ b) :
    Tape K G (upd H tp (.lst [.ref c, .int a, .int b])) tp n := ⟨same_mut s g, g, c, ns, a, b, hc, upd_same, h0, h1, h2⟩
theorem Tape.at (t : Tape K G H tp n) : ∃ xs, H tp = some (.lst xs) := by
  obtain ⟨_, _, c, ns, a, b, _, h, _⟩ := t
  exact ⟨_, h⟩
theorem Tape.ex (t : Tape K G H tp n) : ∃ u, H tp = some u := by
  obtain ⟨xs, h⟩ := t.at
  exact ⟨_, h⟩
theorem Tape.ne (t : Tape K G H tp n) (h : H p = none) : p ≠ tp := by
  obtain ⟨xs, e⟩ := t.at
  exact fun z => by rw [z, e] at h; cases h
theorem Tape.new (t : Tape K G H tp n) (h : H p = none) : Tape K G (upd H p o) tp n := by
  have e := t.ne h
  obtain ⟨s, g, c, ns, a, b, hc, hT, r⟩ := t
  exact ⟨s.trans (same_new h), g, c, ns, a, b, hc, by rw [upd_ne e.symm]; exact hT, r⟩
/-- another object, that does not stay, changes -/
theorem Tape.mut (t : Tape K G H tp n) (g' : G p = none) (e : p ≠ tp) : Tape K G (upd H p o) tp n := by
  obtain ⟨s, g, c, ns, a, b, hc, hT, r⟩ := t
  exact ⟨same_mut s g', g, c, ns, a, b, hc, by rw [upd_ne e.symm]; exact hT, r⟩
/-- an object stays from now on -/
theorem Tape.keep (t : Tape K G H tp n) (h : H p = some o) (e : p ≠ tp) (g' : G p = none) : Tape K (upd G p o) H tp n := by
  obtain ⟨s, g, c, ns, a, b, hc, hT, r⟩ := t
  refine ⟨fun q u hq => ?_, by rw [upd_ne e.symm]; exact g, c, ns, a, b, (same_new g').seq hc, hT, r⟩
  by_cases z : q = p
  · subst z
    rw [upd_same] at hq
    rw [← hq]
    exact h
  · rw [upd_ne z] at hq
    exact s q u hq
/-- a new object that stays -/
theorem Tape.newK (t : Tape K G H tp n) (h : H p = none) : Tape K (upd G p o) (upd H p o) tp n :=
  (t.new h).keep upd_same (t.ne h) (t.1.free h)
theorem Tape.mono (t : Tape K G H tp n) (h : n ≤ m) : Tape K G H tp m := by
  obtain ⟨s, g, c, ns, a, b, hc, hT, h0, h1, h2⟩ := t
  exact ⟨s, g, c, ns, a, b, hc, hT, h0, by omega, h2⟩
theorem Tape.free (t : Tape K G H tp n) (h : H p = none) : G p = none := t.1.free h
end
def spDraw (K : PySem.W.Frag) : Sp := fun vs H Q _ => ∃ (G : Hp) (tp : Addr) (n : Nat) (many : Int), vs = [.ref tp, .int many] ∧ Tape K G H tp n ∧ 0 < many ∧ many < 1073741824 ∧ n < 2 ^ 60 ∧
  ∀ r H', 0 ≤ r → r < many → But tp H H' → Tape K G H' tp (n + 1) → Q (.int r) H'
end Np
namespace Np
open PySem L2
theorem Tape.same {K : PySem.W.Frag} {G H H' : Hp} {tp : Addr} {n : Nat} (t : Tape K G H tp n) (s : Same H H') : Tape K G H' tp n := by
  obtain ⟨s0, g, c, ns, a, b, hc, hT, r⟩ := t
  exact ⟨s0.trans s, g, c, ns, a, b, hc, s _ _ hT, r⟩
theorem Tx.empty : Tx 0 (⟨#[]⟩ : Str) := ⟨Nat.le_refl _, fun c hc => by cases hc⟩
theorem Tx.join0 : ∀ {ys : List Str}, (∀ y ∈ ys, Tx 1 y) → Tx ys.length (Txt.join ("" : Str) ys)
  | [], _ => by
    rw [TL.join_eq]
    exact Tx.empty
  | [x], h => by
    rw [TL.join_eq]
    exact h x List.mem_cons_self
  | x :: z :: r, h => by
    have ih := Tx.join0 (ys := z :: r) fun y hy => h y (List.mem_cons_of_mem _ hy)
    rw [TL.join_eq] at ih ⊢
    show Tx _ (x ++ ("" : Str) ++ Str.join ("" : Str) (z :: r))
    exact (((h x List.mem_cons_self).add Tx.empty).add ih).mono (by simp only [List.length_cons]; omega)
theorem lens_le {n : Nat} : ∀ {ys : List Str}, (∀ y ∈ ys, Tx n y) → (ys.map (·.length)).sum ≤ ys.length * n
  | [], _ => Nat.zero_le _
  | y :: ys, h => by
    have ih := lens_le (ys := ys) fun z hz => h z (List.mem_cons_of_mem _ hz)
    have h1 := (h y List.mem_cons_self).len
    rw [List.map_cons, List.sum_cons, List.length_cons, Nat.succ_mul]
    omega
end Np
namespace Np
open PySem L2
theorem Tape.grow {K : PySem.W.Frag} {G H : Hp} {tp p : Addr} {n : Nat} {o : HO} (t : Tape K G H tp n) (h : H p = none) : ∃ G1, Same G G1 ∧ G1 p = some o ∧ Tape K G1 (upd H p o) tp n :=
  ⟨upd G p o, same_new (t.free h), upd_same, t.newK h⟩
end Np

set_option Elab.async false
set_option linter.all false
set_option maxRecDepth 100000
set_option maxHeartbeats 4000000
namespace Nk01
open PySem L2 Np
def top (i : Nat) : Stmt := PySem.Challenge.pw_nightpaper_k01_names_and_hours.main.body.getD i (.Pass ⟨0, 0, 0, 0⟩)
abbrev s_is_whole : Stmt := top 4
abbrev nm_is_whole : List Str := ["thing", "least"]
abbrev ps_is_whole : List Str := ["thing", "least"]
abbrev s_is_name : Stmt := top 5
abbrev nm_is_name : List Str := ["thing", "sign"]
abbrev ps_is_name : List Str := ["thing"]
abbrev s_is_hour : Stmt := top 6
abbrev nm_is_hour : List Str := ["thing"]
abbrev ps_is_hour : List Str := ["thing"]
abbrev s__law_tape : Stmt := top 8
abbrev nm__law_tape : List Str := ["_law_script"]
abbrev ps__law_tape : List Str := ["_law_script"]
abbrev s__law_draw : Stmt := top 9
abbrev nm__law_draw : List Str := ["_law_tape_here", "_law_many", "_law_digit", "_law_turn", "_law_cell", "_law_primes", "_law_prime", "_law_mixed"]
abbrev ps__law_draw : List Str := ["_law_tape_here", "_law_many"]
abbrev s__law_signs : Stmt := top 10
abbrev nm__law_signs : List Str := ["_law_signs_here"]
abbrev ps__law_signs : List Str := []
abbrev s__law_is_name : Stmt := top 11
abbrev nm__law_is_name : List Str := ["_law_item", "_law_letters", "_law_sign"]
abbrev ps__law_is_name : List Str := ["_law_item"]
abbrev s__law_is_hour : Stmt := top 12
abbrev nm__law_is_hour : List Str := ["_law_item"]
abbrev ps__law_is_hour : List Str := ["_law_item"]
abbrev s__law_bent : Stmt := top 13
abbrev nm__law_bent : List Str := ["_law_tape_here", "_law_text", "_law_signs_here", "_law_at", "_law_sign", "_law_way"]
abbrev ps__law_bent : List Str := ["_law_tape_here", "_law_text"]
abbrev s__law_right : Stmt := top 14
abbrev nm__law_right : List Str := ["_law_item", "_law_told", "_law_one"]
abbrev ps__law_right : List Str := ["_law_item"]
abbrev s_law : Stmt := top 15
abbrev nm_law : List Str := ["_law_script", "_law_tape_here", "_law_letters", "_law_turn", "_law_text", "_law_k", "_law_bent_here", "_law_numbers", "_law_odd", "_law_things", "_law_item"]
abbrev ps_law : List Str := ["_law_script"]
theorem sc_is_whole : FnScope nm_is_whole ps_is_whole (defScope s_is_whole) := ⟨rfl, rfl, rfl, by decide +kernel, rfl, by decide +kernel, by decide +kernel⟩
theorem sc_is_name : FnScope nm_is_name ps_is_name (defScope s_is_name) := ⟨rfl, rfl, rfl, by decide +kernel, rfl, by decide +kernel, by decide +kernel⟩
theorem sc_is_hour : FnScope nm_is_hour ps_is_hour (defScope s_is_hour) := ⟨rfl, rfl, rfl, by decide +kernel, rfl, by decide +kernel, by decide +kernel⟩
theorem sc__law_tape : FnScope nm__law_tape ps__law_tape (defScope s__law_tape) := ⟨rfl, rfl, rfl, by decide +kernel, rfl, by decide +kernel, by decide +kernel⟩
theorem sc__law_draw : FnScope nm__law_draw ps__law_draw (defScope s__law_draw) := ⟨rfl, rfl, rfl, by decide +kernel, rfl, by decide +kernel, by decide +kernel⟩
theorem sc__law_signs : FnScope nm__law_signs ps__law_signs (defScope s__law_signs) := ⟨rfl, rfl, rfl, by decide +kernel, rfl, by decide +kernel, by decide +kernel⟩
theorem sc__law_is_name : FnScope nm__law_is_name ps__law_is_name (defScope s__law_is_name) := ⟨rfl, rfl, rfl, by decide +kernel, rfl, by decide +kernel, by decide +kernel⟩
theorem sc__law_is_hour : FnScope nm__law_is_hour ps__law_is_hour (defScope s__law_is_hour) := ⟨rfl, rfl, rfl, by decide +kernel, rfl, by decide +kernel, by decide +kernel⟩
theorem sc__law_bent : FnScope nm__law_bent ps__law_bent (defScope s__law_bent) := ⟨rfl, rfl, rfl, by decide +kernel, rfl, by decide +kernel, by decide +kernel⟩
theorem sc__law_right : FnScope nm__law_right ps__law_right (defScope s__law_right) := ⟨rfl, rfl, rfl, by decide +kernel, rfl, by decide +kernel, by decide +kernel⟩
theorem sc_law : FnScope nm_law ps_law (defScope s_law) := ⟨rfl, rfl, rfl, by decide +kernel, rfl, by decide +kernel, by decide +kernel⟩
structure Txt (K : PySem.W.Frag) (mg : Str → Option Value) : Prop where
  b_abs : mg "abs" = none
  b_all : mg "all" = none
  b_bool : mg "bool" = none
  b_int : mg "int" = none
  b_isinstance : mg "isinstance" = none
  b_len : mg "len" = none
  b_list : mg "list" = none
  b_range : mg "range" = none
  b_str : mg "str" = none
  g_LETTERS : Glb mg "LETTERS" (.str "abcdefghijklmnopqrstuvwxyz")
  g_LONGEST : Glb mg "LONGEST" (.int 8)
  g_LAST_HOUR : Glb mg "LAST_HOUR" (.int 23)

def sp__law_draw (K : PySem.W.Frag) : Sp := spDraw K

theorem ok__law_draw {P : Program} {w : World} {K : PySem.W.Frag} {mg : Str → Option Value} {base : Heap} {f : Addr} {fd : FuncData} (T : Txt K mg) (F : Fun K "_law_draw" "_law_draw" s__law_draw f fd)
     : FnOk P w K mg base CX0 1 f fd ps__law_draw (sp__law_draw K) := by
  refine F.ok sc__law_draw (fun vs H Q E h => ?_) (fun cdv A outer s H vs Q E hr h => ?_)
  · obtain ⟨G, tp, n, many, rfl, ⟨sG, gt, c, ns, at0, left, hc, hT, h0, h1, h2⟩, m0, m1, hn, k⟩ := h
    rfl
  · obtain ⟨G, tp, n, many, rfl, ⟨sG, gt, c, ns, at0, left, hc, hT, h0, h1, h2⟩, m0, m1, hn, k⟩ := h
    refine ⟨_, (pss_cons (ps_if (pt_cmpR op_gt (pe_ix (ix_listK K) (pv 0) pe_int (fun _ _ => rfl)) pe_int (nomark _))
      (pss_cons (ps_set (i := 2) sc__law_draw.nd rfl (Or.inl rfl) (pe_op op_mod (pe_ix (ix_listK K) (pv 0) pe_int (fun _ _ => rfl)) (pv 1)))
      (pss_cons (ps_asg (pe_op op_fdivN (pe_ix (ix_listK K) (pv 0) pe_int (fun _ _ => rfl)) (pv 1)) (pg_sub (pv 0) pe_int set_list))
      (pss_one (ps_ret (pv 2)))))
      pss_nil)
      (pss_cons (ps_set (i := 3) sc__law_draw.nd rfl (Or.inl rfl) (pe_ix (ix_listK K) (pv 0) pe_int (fun _ _ => rfl)))
      (pss_cons (ps_asg (pe_op op_add (pv 3) pe_int) (pg_sub (pv 0) pe_int set_list))
      (pss_cons (ps_set (i := 4) sc__law_draw.nd rfl (Or.inl rfl) pe_int)
      (pss_cons (ps_if (pt_cmpR (op_neDK K hr.units) (pe_ix (ix_listK K) (pv 0) pe_int (fun _ _ => rfl)) (pe_lst pa_nil) (nomark _))
      (pss_one (ps_set (i := 4) sc__law_draw.nd rfl (Or.inl rfl) (pe_ix (ix_listK K) (pe_ix (ix_listK K) (pv 0) pe_int (fun _ _ => rfl)) (pe_op op_mod (pv 3) (pe_callB (call_lenK K) (by rfl) T.b_len (by decide +kernel) (pa_cons (pe_ix (ix_listK K) (pv 0) pe_int (fun _ _ => rfl)) pa_nil))) (fun _ _ => rfl))))
      pss_nil)
      (pss_cons (ps_if (PW.pt (pw_and (pt_cmpR op_lt (pv 3) (pe_callB (call_lenK K) (by rfl) T.b_len (by decide +kernel) (pa_cons (pe_ix (ix_listK K) (pv 0) pe_int (fun _ _ => rfl)) pa_nil)) (nomark _)) (pw_and1 (pt_cmpR op_ge (pe_callB call_abs (by rfl) T.b_abs (by decide +kernel) (pa_cons (pv 4) pa_nil)) (pe_op op_pow pe_int pe_int) (nomark _)))))
      (pss_cons (ps_asg (pe_op op_fdivN (pe_op op_sub (pe_callB call_abs (by rfl) T.b_abs (by decide +kernel) (pa_cons (pv 4) pa_nil)) (pe_op op_pow pe_int pe_int)) (pv 1)) (pg_sub (pv 0) pe_int set_list))
      (pss_one (ps_ret (pe_op op_mod (pe_op op_sub (pe_callB call_abs (by rfl) T.b_abs (by decide +kernel) (pa_cons (pv 4) pa_nil)) (pe_op op_pow pe_int pe_int)) (pv 1)))))
      pss_nil)
      (pss_cons (ps_set (i := 5) sc__law_draw.nd rfl (Or.inl rfl) (pe_lst (pa_cons pe_int (pa_cons pe_int (pa_cons pe_int (pa_cons pe_int (pa_cons pe_int pa_nil)))))))
      (pss_cons (ps_set (i := 6) sc__law_draw.nd rfl (Or.inl rfl) (pe_ix (ix_listK K) (pv 5) (pe_op op_mod (pv 3) pe_int) (fun _ _ => rfl)))
      (pss_cons (ps_set (i := 7) sc__law_draw.nd rfl (Or.inl rfl) (pe_op op_mod (pe_op op_add (pe_op op_add (pe_op op_add (pe_op op_mul (pe_op op_mod (pv 4) (pv 6)) pe_int) (pe_op op_mul (pe_op op_mul pe_int (pv 3)) (pv 3))) (pe_op op_mul pe_int (pv 3))) pe_int) (pv 6)))
      (pss_cons (ps_set (i := 7) sc__law_draw.nd rfl (Or.inl rfl) (pe_op op_mod (pe_op op_mul (pv 7) (pe_op op_add (pv 7) pe_int)) (pe_ix (ix_listK K) (pv 5) (pe_op op_mod (pe_op op_add (pv 3) pe_int) pe_int) (fun _ _ => rfl))))
      (pss_one (ps_ret (pe_op op_mod (pe_op op_fdiv (pe_op op_mod (pe_op op_mul (pv 7) (pv 7)) pe_int) pe_int) (pv 1)))))))))))))), ?_⟩
    have hc' : SqL K H c (ns.map V.int) := sG.seq hc
    have mne : many ≠ 0 ∧ many.natAbs < 1073741824 := ⟨by omega, by omega⟩
    refine ⟨_, rfl, tp, _, _, _, rfl, rfl, SqL.of hT, rfl, _, _, rfl, rfl, _, rfl, ?_⟩
    refine ite2 (fun hl => ?_) (fun hl => ?_)
    · refine ⟨_, rfl, tp, _, _, _, rfl, rfl, SqL.of hT, rfl, _, rfl, _, _, rfl, rfl, m0, ?_⟩
      refine ⟨_, rfl, tp, _, _, _, rfl, rfl, SqL.of hT, rfl, _, rfl, _, _, rfl, rfl, mne, _, rfl, tp, _, _, 2, rfl, rfl, hT, rfl, ?_⟩
      refine ⟨_, rfl, ?_⟩
      refine k _ _ (Int.emod_nonneg _ (by omega)) (Int.emod_lt_of_pos _ m0) But.mut ?_
      refine Tape.step sG gt hc h0 (by omega) ?_
      rw [Int.fdiv_eq_ediv_of_nonneg _ (by omega)]
      exact Int.ediv_nonneg h2 (by omega)
    · refine ⟨_, rfl, tp, _, _, _, rfl, rfl, SqL.of hT, rfl, ?_⟩
      refine ⟨_, rfl, _, _, rfl, rfl, _, rfl, tp, _, _, 1, rfl, rfl, hT, rfl, ?_⟩
      generalize hH1 : upd H tp _ = H1
      have hT1 : H1 tp = some (.lst [.ref c, .int (at0 + 1), .int left]) := by rw [← hH1]; exact upd_same
      have sG1 : Same G H1 := by rw [← hH1]; exact same_mut sG gt
      have hc1 : SqL K H1 c (ns.map V.int) := sG1.seq hc
      have bt1 : But tp H H1 := by rw [← hH1]; exact But.mut
      dsimp only
      refine asgc_step ?_
      refine seq_have (fun σ H' => ∃ cell : Int, σ = [some (.ref tp), some (.int many), none, some (.int at0), some (.int cell), none, none, none] ∧ Same G H' ∧ But tp H H' ∧ H' tp = some (.lst [.ref c, .int (at0 + 1), .int left])) ?_ ?_
      · rintro σ H2 ⟨cell, rfl, sG2, bt2, hT2⟩
        have hc2 : SqL K H2 c (ns.map V.int) := sG2.seq hc
        refine seq_have (fun σ H' => σ = [some (.ref tp), some (.int many), none, some (.int at0), some (.int cell), none, none, none] ∧ H2 = H') ?_ ?_
        · rintro σ H' ⟨rfl, rfl⟩
          refine ⟨(by show 5 ≤ sizeLine; decide), fun p hp => ?_⟩
          have hT3 : (upd H2 p (.lst [.int 2147483647, .int 2147483629, .int 2147483587, .int 2147483579, .int 2147483563])) tp = some (.lst [.ref c, .int (at0 + 1), .int left]) := by
            rw [upd_ne (ne_of_none hT2 hp)]
            exact hT2
          have sG3 : Same G (upd H2 p (.lst [.int 2147483647, .int 2147483629, .int 2147483587, .int 2147483579, .int 2147483563])) := sG2.trans (same_new hp)
          have five : ∀ i : Int, ∃ q : Int, atI ([.int 2147483647, .int 2147483629, .int 2147483587, .int 2147483579, .int 2147483563] : List V) (i % 5) = some (.int q) ∧ 2000000000 < q ∧ q < 2147483648 := fun i => by
            have e1 := Int.emod_nonneg i (show (5 : Int) ≠ 0 by decide)
            have e2 := Int.emod_lt_of_pos i (show (0 : Int) < 5 by decide)
            have e3 : i % 5 = 0 ∨ i % 5 = 1 ∨ i % 5 = 2 ∨ i % 5 = 3 ∨ i % 5 = 4 := by omega
            rcases e3 with e | e | e | e | e <;> rw [e] <;> exact ⟨_, rfl, by decide, by decide⟩
          obtain ⟨q1, a1, b1, b2⟩ := five at0
          obtain ⟨q2, a2, b3, b4⟩ := five (at0 + 2)
          refine ⟨_, rfl, _, rfl, _, _, rfl, rfl, (by show (0 : Int) < 5; decide), p, _, _, _, rfl, rfl, SqL.of upd_same, a1, ?_⟩
          have c1 := Int.emod_nonneg cell (show q1 ≠ 0 by omega)
          have c2 := Int.emod_lt_of_pos cell (show 0 < q1 by omega)
          refine ⟨_, rfl, _, rfl, _, _, rfl, rfl, (by show 0 < q1; omega), _, _, rfl, rfl, .inr ⟨by decide, by decide⟩, _, rfl, _, _, rfl, rfl, .inl ⟨by decide, by decide⟩, _, rfl, _, _, rfl, rfl, .inr ⟨by omega, by omega⟩, _, _, rfl, rfl, _, rfl, _, _, rfl, rfl, .inl ⟨by decide, by decide⟩,
            _, _, rfl, rfl, _, _, rfl, rfl, _, rfl, _, _, rfl, rfl, (by show 0 < q1; omega), ?_⟩
          dsimp only
          generalize hm : (cell % q1 * 48271 + 7919 * at0 * at0 + 69621 * at0 + 1) % q1 = mix
          have d1 : 0 ≤ mix := by rw [← hm]; exact Int.emod_nonneg _ (by omega)
          have d2 : mix < q1 := by rw [← hm]; exact Int.emod_lt_of_pos _ (by omega)
          refine ⟨_, rfl, _, rfl, _, _, rfl, rfl, _, _, rfl, rfl, .inl ⟨by omega, by omega⟩, _, rfl, _, rfl, _, _, rfl, rfl, _, _, rfl, rfl, (by show (0 : Int) < 5; decide), p, _, _, _, rfl, rfl, SqL.of upd_same, a2, _, _, rfl, rfl, (by show 0 < q2; omega), ?_⟩
          dsimp only
          generalize hm2 : mix * (mix + 16807) % q2 = mix2
          have d3 : 0 ≤ mix2 := by rw [← hm2]; exact Int.emod_nonneg _ (by omega)
          have d4 : mix2 < q2 := by rw [← hm2]; exact Int.emod_lt_of_pos _ (by omega)
          refine ⟨_, rfl, _, rfl, _, _, rfl, rfl, .inl ⟨by omega, by omega⟩, _, _, rfl, rfl, (by show (0 : Int) < 2147483549; decide), _, _, rfl, rfl, ⟨by decide, by decide⟩, _, rfl, _, _, rfl, rfl, m0, ?_⟩
          refine k _ _ (Int.emod_nonneg _ (by omega)) (Int.emod_lt_of_pos _ m0) (bt2.trans (But.new hp)) ⟨sG3, gt, c, ns, at0 + 1, left, hc, hT3, by omega, by omega, h2⟩
        · intro rest
          refine ⟨_, rfl, _, rfl, tp, _, _, _, rfl, rfl, SqL.of hT2, rfl, c, _, rfl, .inl hc2, _, _, rfl, rfl, _, rfl, ?_⟩
          refine ite2 (fun _ => ?_) (fun _ => iteF (rest _ _ ⟨rfl, rfl⟩))
          refine ⟨_, rfl, _, rfl, _, _, rfl, rfl, ⟨by decide, by decide, by decide⟩, _, _, rfl, rfl, _, rfl, ?_⟩
          refine ite2 (fun hb => ?_) (fun _ => rest _ _ ⟨rfl, rfl⟩)
          have hb' := of_decide_eq_true hb
          refine ⟨_, rfl, _, rfl, _, _, rfl, rfl, ⟨by decide, by decide, by decide⟩, _, _, rfl, rfl, _, rfl, _, _, rfl, rfl, mne, _, rfl, tp, _, _, 2, rfl, rfl, hT2, rfl, ?_⟩
          refine ⟨_, rfl, _, rfl, _, _, rfl, rfl, ⟨by decide, by decide, by decide⟩, _, _, rfl, rfl, _, rfl, _, _, rfl, rfl, m0, ?_⟩
          refine k _ _ (Int.emod_nonneg _ (by omega)) (Int.emod_lt_of_pos _ m0) (bt2.trans But.mut) ?_
          refine Tape.step sG2 gt hc (by omega) (by omega) ?_
          rw [Int.fdiv_eq_ediv_of_nonneg _ (by omega)]
          exact Int.ediv_nonneg (by omega) (by omega)
      · intro rest
        refine ⟨_, rfl, tp, _, _, _, rfl, rfl, SqL.of hT1, rfl, Nat.zero_le _, fun p hp => ?_⟩
        refine ⟨.list (ns.map .int), .list [], .lst ((sG1.trans (same_new hp)).seq hc) (dp_ints ns), .lst (SqL.of upd_same) .nil, shaped_ints ns, rfl, _, rfl, ?_⟩
        have hT2 : (upd H1 p (.lst [])) tp = some (.lst [.ref c, .int (at0 + 1), .int left]) := by
          rw [upd_ne (ne_of_none hT1 hp)]
          exact hT1
        have sG2 : Same G (upd H1 p (.lst [])) := sG1.trans (same_new hp)
        refine ite2 (fun hb => ?_) (fun _ => rest _ _ ⟨0, rfl, sG2, bt1.trans (But.new hp), hT2⟩)
        have hne : 0 < ns.length := by
          cases ns with
          | nil => exact absurd hb (by decide)
          | cons x y => exact Nat.succ_pos _
        obtain ⟨v, hv⟩ := atI_mod (ns := ns) (i := at0 % (ns.length : Int)) (Int.emod_nonneg _ (by omega)) (Int.emod_lt_of_pos _ (by omega))
        refine ⟨_, rfl, tp, _, _, _, rfl, rfl, SqL.of hT2, rfl, _, rfl, _, rfl, tp, _, _, _, rfl, rfl, SqL.of hT2, rfl, c, _, rfl, .inl (sG2.seq hc), _, _, rfl, rfl, (by show (0 : Int) < ((ns.map V.int).length : Int); rw [List.length_map]; omega), c, _, _, _, rfl, rfl, sG2.seq hc, (by rw [List.length_map]; exact hv), ?_⟩
        exact rest _ _ ⟨v, rfl, sG2, bt1.trans (But.new hp), hT2⟩

def sp__law_tape (K : PySem.W.Frag) : Sp := fun vs H Q _ => ∃ (a : Addr) (ns : List Int), vs = [.ref a] ∧ SqL K H a (ns.map V.int) ∧ ∀ tp G H', Same H G → Tape K G H' tp 0 → Q (.ref tp) H'

theorem ok__law_tape {P : Program} {w : World} {K : PySem.W.Frag} {mg : Str → Option Value} {base : Heap} {f : Addr} {fd : FuncData} (T : Txt K mg) (F : Fun K "_law_tape" "_law_tape" s__law_tape f fd)
     : FnOk P w K mg base CX0 1 f fd ps__law_tape (sp__law_tape K) := by
  refine F.ok sc__law_tape (fun vs H Q E h => ?_) (fun cdv A outer s H vs Q E hr h => ?_)
  · obtain ⟨a, ns, rfl, hS, k⟩ := h
    rfl
  · obtain ⟨a, ns, rfl, hS, k⟩ := h
    refine ⟨_, (pss_one (ps_ret (pe_lst (pa_cons (pe_callTy (call_listK K) (by rfl) T.b_list (by decide +kernel) (pa_cons (pe_slice (sl_listK K) (pv 0) po_none (po_some pe_int)) pa_nil)) (pa_cons pe_int (pa_cons pe_int pa_nil)))))), ?_⟩
    refine ⟨_, rfl, _, rfl, a, _, rfl, hS, fun p1 n1 => ?_⟩
    obtain ⟨ms, em⟩ := cutV_ints ns none (some 63)
    rw [em]
    refine ⟨p1, _, rfl, .inl (SqL.of upd_same), fun p2 n2 => ?_⟩
    refine ⟨(by show 3 ≤ sizeLine; decide), fun p3 n3 => ?_⟩
    refine k p3 _ _ ((same_new n1).trans (same_new n2)) ⟨same_new n3, n3, p2, ms, 0, 0, SqL.of upd_same, upd_same, by decide, by decide, by decide⟩

def SIG : Str := (" !\"#$&'()*+,-./0123456789:;<=>?@ABCDEFGHIJKLMNOPQRSTUVWXYZ[\\]^_" : Str) ++ ("`abcdefghijklmnopqrstuvwxyz{|}~" : Str)
theorem sig_len : SIG.length = 94 := by decide +kernel
def sp__law_signs : Sp := fun vs H Q _ => vs = [] ∧ Q (.str SIG) H

theorem ok__law_signs {P : Program} {w : World} {K : PySem.W.Frag} {mg : Str → Option Value} {base : Heap} {f : Addr} {fd : FuncData} (T : Txt K mg) (F : Fun K "_law_signs" "_law_signs" s__law_signs f fd)
     : FnOk P w K mg base CX0 1 f fd ps__law_signs (sp__law_signs) := by
  refine F.ok sc__law_signs (fun vs H Q E h => ?_) (fun cdv A outer s H vs Q E hr h => ?_)
  · obtain ⟨rfl, k⟩ := h
    rfl
  · obtain ⟨rfl, k⟩ := h
    refine ⟨_, (pss_cons (ps_set (i := 0) sc__law_signs.nd rfl (Or.inl rfl) pe_str)
      (pss_one (ps_ret (pe_op op_add_str (pv 0) pe_str)))), ?_⟩
    exact ⟨_, rfl, _, _, rfl, rfl, (by decide +kernel), k⟩

def wholeV : V → Bool
  | .int i => decide (0 ≤ i)
  | _ => false
def sp_is_whole : Sp := fun vs H Q _ => ∃ v, vs = [v, .int 0] ∧ Th H v ∧ Q (.bl (wholeV v)) H

theorem ok_is_whole {P : Program} {w : World} {K : PySem.W.Frag} {mg : Str → Option Value} {base : Heap} {f : Addr} {fd : FuncData} (T : Txt K mg) (F : FunD K "is_whole" "is_whole" (defArgs s_is_whole) (defBody s_is_whole) (defScope s_is_whole) [(.int 0)] [] f fd)
     : FnOk P w K mg base CX0 1 f fd ps_is_whole (sp_is_whole) := by
  refine F.ok sc_is_whole (fun vs H Q E h => ?_) (fun cdv A outer s H vs Q E hr h => ?_)
  · obtain ⟨v, rfl, hv, k⟩ := h
    rfl
  · obtain ⟨v, rfl, hv, k⟩ := h
    refine ⟨_, PSs.nox ((pss_one (ps_ret (pe_and (pe_callB (call_isiKK K) (by rfl) T.b_isinstance (by decide +kernel) (pa_cons (pv 0) (pa_cons (pe_bltn (v := .ty "int") rfl T.b_int (by decide +kernel) rfl) pa_nil))) (pe_and (pe_not (pe_callB (call_isiKK K) (by rfl) T.b_isinstance (by decide +kernel) (pa_cons (pv 0) (pa_cons (pe_bltn (v := .ty "bool") rfl T.b_bool (by decide +kernel) rfl) pa_nil)))) (pe_one (pe_cmpR op_ge (pv 0) (pv 1) (nomark _)))))))), ?_⟩
    obtain ⟨t1, ty1, k1⟩ := isi_of (K := K) hv "int" (by decide)
    obtain ⟨t2, ty2, k2⟩ := isi_of (K := K) hv "bool" (by decide)
    refine ⟨_, rfl, _, _, t1, _, _, rfl, .ty _, ty1, k1, _, rfl, ?_⟩
    refine ite2 (fun h1 => ?_) (fun h1 => ?_)
    · refine ⟨_, rfl, _, _, t2, _, _, rfl, .ty _, ty2, k2, _, rfl, _, rfl, ?_⟩
      refine ite2 (fun h2 => ?_) (fun h2 => ?_)
      · obtain ⟨i, rfl⟩ := isK_int h1 (by simpa using h2)
        exact ⟨_, rfl, _, rfl, _, _, rfl, rfl, k⟩
      · cases v with
        | bl b => exact k
        | int i => exact absurd rfl h2
        | _ => exact absurd h1 (by first | exact Bool.false_ne_true | decide)
    · cases v with
      | int i => exact absurd rfl h1
      | _ => exact k

def hourV : V → Bool
  | .int i => decide (0 ≤ i) && decide (i ≤ 23)
  | _ => false
def sp_is_hour : Sp := fun vs H Q _ => ∃ v, vs = [v] ∧ Th H v ∧ Q (.bl (hourV v)) H

theorem ok_is_hour {P : Program} {w : World} {K : PySem.W.Frag} {mg : Str → Option Value} {base : Heap} {f : Addr} {fd : FuncData} (T : Txt K mg) (F : Fun K "is_hour" "is_hour" s_is_hour f fd)
    {f_is_whole : Addr} {fd_is_whole : FuncData} (O_is_whole : OkF P w K mg base CX0 1 "is_whole" ps_is_whole (sp_is_whole) f_is_whole fd_is_whole)
    (BD_is_whole_1 : ∃ ds, Vals [(.int 0)] ds ∧ Binds K fd_is_whole ps_is_whole ds) : FnOk P w K mg base CX0 2 f fd ps_is_hour (sp_is_hour) := by
  refine F.ok sc_is_hour (fun vs H Q E h => ?_) (fun cdv A outer s H vs Q E hr h => ?_)
  · obtain ⟨v, rfl, hv, k⟩ := h
    rfl
  · obtain ⟨v, rfl, hv, k⟩ := h
    refine ⟨_, (pss_one (ps_ret (pe_and (pe_fD O_is_whole BD_is_whole_1 (hr.mono (by decide)) pass0 (pa_cons (pv 0) pa_nil)) (pe_one (pe_cmpR op_le (pv 0) (pe_g T.g_LAST_HOUR) (nomark _)))))), ?_⟩
    refine ⟨_, rfl, v, rfl, hv, _, rfl, ?_⟩
    refine ite2 (fun h1 => ?_) (fun h1 => ?_)
    · cases v with
      | int i =>
        refine ⟨_, rfl, _, _, rfl, rfl, ?_⟩
        have e : hourV (.int i) = decide (i ≤ 23) := by
          show (decide (0 ≤ i) && decide (i ≤ 23)) = _
          rw [show decide (0 ≤ i) = true from h1, Bool.true_and]
        show Q (.bl (decide (i ≤ 23))) H
        rw [← e]
        exact k
      | _ => exact absurd h1 Bool.false_ne_true
    · cases v with
      | int i =>
        have e : hourV (.int i) = false := by
          show (decide (0 ≤ i) && decide (i ≤ 23)) = _
          rw [show decide (0 ≤ i) = false from Bool.not_eq_true _ ▸ h1, Bool.false_and]
        rw [← e]
        exact k
      | _ => exact k

def LET : Str := "abcdefghijklmnopqrstuvwxyz"
def nameS (x : Str) : Bool := decide (0 < x.length) && (decide (x.length ≤ 8) && x.cps.toList.all fun c => decide (c ∈ LET.cps.toList))
def nameV : V → Bool
  | .str x => nameS x
  | _ => false
/-- a thing, its text no longer than is handled -/
def ThN (H : Hp) (v : V) : Prop := Th H v ∧ ∀ x, v = .str x → Tx 100 x
def sp_is_name : Sp := fun vs H Q _ => ∃ v, vs = [v] ∧ ThN H v ∧ ∀ H', Same H H' → Q (.bl (nameV v)) H'

theorem ok_is_name {P : Program} {w : World} {K : PySem.W.Frag} {mg : Str → Option Value} {base : Heap} {f : Addr} {fd : FuncData} (T : Txt K mg) (F : Fun K "is_name" "is_name" s_is_name f fd)
     : FnOk P w K mg base CX0 1 f fd ps_is_name (sp_is_name) := by
  refine F.ok sc_is_name (fun vs H Q E h => ?_) (fun cdv A outer s H vs Q E hr h => ?_)
  · obtain ⟨v, rfl, ⟨hv, hl⟩, k⟩ := h
    rfl
  · obtain ⟨v, rfl, ⟨hv, hl⟩, k⟩ := h
    refine ⟨_, (pss_one (ps_ret (pe_and (pe_callB (call_isiKK K) (by rfl) T.b_isinstance (by decide +kernel) (pa_cons (pv 0) (pa_cons (pe_bltn (v := .ty "str") rfl T.b_str (by decide +kernel) rfl) pa_nil))) (pe_and (pe_chain op_lt op_le pe_int (pe_callB call_len_str (by rfl) T.b_len (by decide +kernel) (pa_cons (pv 0) pa_nil)) (pe_g T.g_LONGEST)) (pe_one (pe_callB (cr_allK K rfl) (by rfl) T.b_all (by decide +kernel) (pa_cons (pe_lc (own := [("sign", 1)]) (g := gName 1) (tt := tYes) (by rfl) sc_is_name.nd (pi_str (pv 0)) (blkOk_by (own := [("sign", 1)]) (N := nm_is_name) (sc := defScope s_is_name) (by decide +kernel)) (fun _ _ _ _ _ => (pg_name (i := 1) sc_is_name.nd rfl (Or.inl rfl))) (fun _ _ _ _ _ => pts_nil) (fun _ _ _ _ _ => (pe_cmpR op_in_sign (pv 1) (pe_g T.g_LETTERS) rfl))) pa_nil))))))), ?_⟩
    obtain ⟨t1, ty1, k1⟩ := isi_of (K := K) hv "str" (by decide)
    refine ⟨_, rfl, _, _, t1, _, _, rfl, .ty _, ty1, k1, _, rfl, ?_⟩
    refine ite2 (fun h1 => ?_) (fun h1 => ?_)
    · obtain ⟨z, rfl⟩ := isK_str h1
      have hx := hl z rfl
      have hz := hx.len
      have hz' : z.length ≤ sizeLine := Nat.le_trans hz (by decide)
      refine ⟨_, rfl, _, rfl, hz', _, _, rfl, rfl, _, rfl, ?_⟩
      refine ite2 (fun h2 => ?_) (fun h2 => ?_)
      · refine ⟨_, _, rfl, rfl, _, rfl, ?_⟩
        refine ite2 (fun h3 => ?_) (fun h3 => ?_)
        · refine ⟨_, rfl, z, rfl, fun D nD => ?_⟩
          refine lc_it walk_str (fun i H' => Same H H' ∧ H' D = some (.lst ((z.cps.toList.take i).map fun c => V.bl (decide (c ∈ LET.cps.toList))))) ⟨same_new nD, upd_same⟩ (fun _ _ _ _ => trivial) ?_ ?_
          · rintro i x H1 H2 hi ⟨s1, e1⟩ ⟨rfl, c, hc, rfl⟩
            refine ⟨rfl, ?_⟩
            refine ⟨_, rfl, c, LET, rfl, rfl, ?_⟩
            have hc' : z.cps.toList[i]? = some c := by rw [Array.getElem?_toList]; exact hc
            refine ⟨_, e1, ?_, same_mut s1 nD, ?_⟩
            · rw [List.length_map, List.length_take, Array.length_toList]
              exact Nat.lt_of_le_of_lt (Nat.min_le_right _ _) (Nat.lt_of_le_of_lt hz (by decide))
            · rw [take_succ_map _ hc']
              exact upd_same
          · rintro H1 ⟨s1, e1⟩
            refine ⟨D, z.cps.toList.map (fun c => decide (c ∈ LET.cps.toList)), rfl, SqL.of ?_, ?_⟩
            · rw [e1, List.take_of_length_le (by rw [Array.length_toList]; exact Nat.le_refl _), List.map_map] <;> rfl
            · have e : nameS z = (z.cps.toList.map (fun c => decide (c ∈ LET.cps.toList))).all id := by
                unfold nameS
                rw [show decide (0 < z.length) = true from decide_eq_true (by have := of_decide_eq_true h2; omega), show decide (z.length ≤ 8) = true from decide_eq_true (by have := of_decide_eq_true h3; omega), Bool.true_and, Bool.true_and, List.all_map] <;> rfl
              rw [← e]
              exact k _ s1
        · have e : nameS z = false := by
            unfold nameS
            rw [show decide (z.length ≤ 8) = false from decide_eq_false (fun q => h3 (decide_eq_true (by omega))), Bool.false_and, Bool.and_false]
          have q := k H (Same.refl H)
          rw [show nameV (.str z) = nameS z from rfl, e] at q
          exact q
      · have e : nameS z = false := by
          unfold nameS
          rw [show decide (0 < z.length) = false from decide_eq_false (fun q => h2 (decide_eq_true (by omega))), Bool.false_and]
        have q := k H (Same.refl H)
        rw [show nameV (.str z) = nameS z from rfl, e] at q
        exact ⟨_, rfl, iteF q⟩
    · have q := k H (Same.refl H)
      cases v with
      | str z => exact absurd rfl h1
      | _ => exact q

def sp__law_is_name : Sp := fun vs H Q _ => ∃ v, vs = [v] ∧ ThN H v ∧ ∀ H', Same H H' → Q (.bl (nameV v)) H'
theorem none_out (z : Str) (h0 : 0 < z.length) (h8 : z.length ≤ 8) : nameS z = ((z.cps.toList.filter fun c => !decide (c ∈ LET.cps.toList)).isEmpty) := by
  unfold nameS
  rw [decide_eq_true h0, decide_eq_true h8, Bool.true_and, Bool.true_and]
  generalize z.cps.toList = l
  induction l with
  | nil => rfl
  | cons c l ih =>
    rw [List.all_cons, List.filter_cons, ih]
    by_cases h : c ∈ LET.cps.toList
    · rw [decide_eq_true h] <;> rfl
    · rw [decide_eq_false h] <;> rfl
theorem dp_signs {K : PySem.W.Frag} {H : Hp} : ∀ cs : List Nat, DpAll K H (cs.map fun c => V.str ⟨#[c]⟩) (cs.map fun c => PyData.str ⟨#[c]⟩)
  | [] => .nil
  | c :: cs => .cons (.str _) (dp_signs cs)

theorem ok__law_is_name {P : Program} {w : World} {K : PySem.W.Frag} {mg : Str → Option Value} {base : Heap} {f : Addr} {fd : FuncData} (T : Txt K mg) (F : Fun K "_law_is_name" "_law_is_name" s__law_is_name f fd)
     : FnOk P w K mg base CX0 1 f fd ps__law_is_name (sp__law_is_name) := by
  refine F.ok sc__law_is_name (fun vs H Q E h => ?_) (fun cdv A outer s H vs Q E hr h => ?_)
  · obtain ⟨v, rfl, ⟨hv, hl⟩, k⟩ := h
    rfl
  · obtain ⟨v, rfl, ⟨hv, hl⟩, k⟩ := h
    refine ⟨_, (pss_cons (ps_set (i := 1) sc__law_is_name.nd rfl (Or.inr rfl) pe_str)
      (pss_cons (ps_if (PW.pt (pw_or (pt_not (pt_val (pe_callB (call_isiKK K) (by rfl) T.b_isinstance (by decide +kernel) (pa_cons (pv 0) (pa_cons (pe_bltn (v := .ty "str") rfl T.b_str (by decide +kernel) rfl) pa_nil))))) (pw_or (pt_cmpR op_eq (pv 0) pe_str (nomark _)) (pw_or1 (pt_cmpR op_gt (pe_callB call_len_str (by rfl) T.b_len (by decide +kernel) (pa_cons (pv 0) pa_nil)) pe_int (nomark _))))))
      (pss_one (ps_ret pe_bl))
      pss_nil)
      (pss_one (ps_ret (pe_cmpR (op_eqDK K hr.units) (pe_lc (own := [("_law_sign", 2)]) (g := gName 2) (by rfl) sc__law_is_name.nd (pi_str (pv 0)) (blkOk_by (own := [("_law_sign", 2)]) (N := nm__law_is_name) (sc := defScope s__law_is_name) (by decide +kernel)) (fun _ _ _ _ _ => (pg_name (i := 2) sc__law_is_name.nd rfl (Or.inl rfl))) (fun _ _ _ _ _ => (pts_one (pt_cmpR (op_notIn_seqK K) (pv 2) (pe_callTy (call_listS rfl) (by rfl) T.b_list (by decide +kernel) (pa_cons (pv 1) pa_nil)) (by rfl)))) (fun _ _ _ _ _ => (pv 2))) (pe_lst pa_nil) (nomark _)))))), ?_⟩
    obtain ⟨t1, ty1, k1⟩ := isi_of (K := K) hv "str" (by decide)
    refine ⟨_, rfl, _, _, t1, _, _, rfl, .ty _, ty1, k1, _, rfl, ?_⟩
    dsimp only
    refine ite2 (fun h1 => ?_) (fun h1 => ?_)
    · have q := k H (Same.refl H)
      cases v with
      | str z => exact absurd h1 Bool.false_ne_true
      | _ => exact q
    · obtain ⟨z, rfl⟩ := isK_str (v := v) (by simpa using h1)
      have hx := hl z rfl
      have hz := hx.len
      have hz' : z.length ≤ sizeLine := Nat.le_trans hz (by decide)
      refine ⟨_, rfl, rfl, _, rfl, ?_⟩
      refine ite2 (fun h2 => ?_) (fun h2 => ?_)
      · have e := of_decide_eq_true h2
        injection e with e
        subst e
        exact k H (Same.refl H)
      · refine ⟨_, rfl, _, rfl, hz', _, _, rfl, rfl, _, rfl, ?_⟩
        have h0 : 0 < z.length := by
          refine Nat.pos_of_ne_zero fun e => h2 (decide_eq_true ?_)
          have e2 : z.cps = #[] := Array.eq_empty_of_size_eq_zero e
          cases z with
          | mk cps => exact congrArg V.str (congrArg Str.mk e2)
        refine ite2 (fun h3 => ?_) (fun h3 => ?_)
        · have e : nameS z = false := by
            unfold nameS
            rw [show decide (z.length ≤ 8) = false from decide_eq_false (fun q => by have := of_decide_eq_true h3; omega), Bool.false_and, Bool.and_false]
          have q := k H (Same.refl H)
          rw [show nameV (.str z) = nameS z from rfl, e] at q
          exact q
        · have h8 : z.length ≤ 8 := by
            have : ¬ ((8 : Int) < z.length) := fun q => h3 (decide_eq_true q)
            omega
          refine ⟨_, rfl, z, rfl, fun D nD => ?_⟩
          refine lc_it walk_str (fun i H' => Same H H' ∧ H' D = some (.lst (((z.cps.toList.take i).filter fun c => !decide (c ∈ LET.cps.toList)).map fun c => V.str ⟨#[c]⟩))) ⟨same_new nD, upd_same⟩ (fun _ _ _ _ => trivial) ?_ ?_
          · rintro i x H1 H2 hi ⟨s1, e1⟩ ⟨rfl, c, hc, rfl⟩
            have hc' : z.cps.toList[i]? = some c := by rw [Array.getElem?_toList]; exact hc
            refine ⟨rfl, ?_⟩
            refine ⟨_, rfl, _, rfl, LET, rfl, (by decide), fun p np => ?_⟩
            refine ⟨p, _, rfl, .inl (SqL.of upd_same), rfl, flat_signs _, !decide (c ∈ LET.cps.toList), ?_, ?_⟩
            · show V.bl (!inV _ _) = _
              rw [in_signs]
            · refine ite2 (fun h4 => ?_) (fun h4 => ?_)
              · refine ⟨_, rfl, _, same_new np _ _ e1, ?_, same_mut (s1.trans (same_new np)) nD, ?_⟩
                · rw [List.length_map]
                  refine Nat.lt_of_le_of_lt (List.length_filter_le _ _) ?_
                  rw [List.length_take, Array.length_toList]
                  exact Nat.lt_of_le_of_lt (Nat.min_le_right _ _) (Nat.lt_of_le_of_lt hz (by decide))
                · rw [take_succ_filter _ hc', if_pos h4, List.map_append]
                  exact upd_same
              · refine ⟨s1.trans (same_new np), ?_⟩
                rw [take_succ_filter _ hc', if_neg h4, List.append_nil]
                exact same_new np _ _ e1
          · rintro H1 ⟨s1, e1⟩
            refine ⟨Nat.zero_le _, fun q nq => ?_⟩
            refine ⟨.list ((z.cps.toList.filter fun c => !decide (c ∈ LET.cps.toList)).map fun c => PyData.str ⟨#[c]⟩), .list [], .lst (SqL.of (same_new nq _ _ ?_)) (dp_signs _), .lst (SqL.of upd_same) .nil, Fine.shaped (k := 1) (Fine.list fun d hd => ?_), rfl, ?_⟩
            · rw [e1, List.take_of_length_le (by rw [Array.length_toList]; exact Nat.le_refl _)]
            · obtain ⟨c, hc, rfl⟩ := List.mem_map.mp hd
              exact Fine.str (Tx.sign (hx.ok c (List.mem_filter.mp hc).1)).strOk
            · rw [eqv_nil, List.isEmpty_map, ← none_out z h0 h8]
              exact k _ (s1.trans (same_new nq))

def sp__law_is_hour : Sp := fun vs H Q _ => ∃ v, vs = [v] ∧ Th H v ∧ Q (.bl (hourV v)) H

theorem ok__law_is_hour {P : Program} {w : World} {K : PySem.W.Frag} {mg : Str → Option Value} {base : Heap} {f : Addr} {fd : FuncData} (T : Txt K mg) (F : Fun K "_law_is_hour" "_law_is_hour" s__law_is_hour f fd)
     : FnOk P w K mg base CX0 1 f fd ps__law_is_hour (sp__law_is_hour) := by
  refine F.ok sc__law_is_hour (fun vs H Q E h => ?_) (fun cdv A outer s H vs Q E hr h => ?_)
  · obtain ⟨v, rfl, hv, k⟩ := h
    rfl
  · obtain ⟨v, rfl, hv, k⟩ := h
    refine ⟨_, (pss_one (ps_ret (pe_and (pe_callB (call_isiKK K) (by rfl) T.b_isinstance (by decide +kernel) (pa_cons (pv 0) (pa_cons (pe_bltn (v := .ty "int") rfl T.b_int (by decide +kernel) rfl) pa_nil))) (pe_and (pe_not (pe_callB (call_isiKK K) (by rfl) T.b_isinstance (by decide +kernel) (pa_cons (pv 0) (pa_cons (pe_bltn (v := .ty "bool") rfl T.b_bool (by decide +kernel) rfl) pa_nil)))) (pe_one (pe_chain op_le op_lt pe_int (pv 0) pe_int)))))), ?_⟩
    obtain ⟨t1, ty1, k1⟩ := isi_of (K := K) hv "int" (by decide)
    obtain ⟨t2, ty2, k2⟩ := isi_of (K := K) hv "bool" (by decide)
    refine ⟨_, rfl, _, _, t1, _, _, rfl, .ty _, ty1, k1, _, rfl, ?_⟩
    refine ite2 (fun h1 => ?_) (fun h1 => ?_)
    · refine ⟨_, rfl, _, _, t2, _, _, rfl, .ty _, ty2, k2, _, rfl, _, rfl, ?_⟩
      refine ite2 (fun h2 => ?_) (fun h2 => ?_)
      · obtain ⟨i, rfl⟩ := isK_int h1 (by simpa using h2)
        refine ⟨_, rfl, _, _, rfl, rfl, _, rfl, ?_⟩
        refine ite2 (fun h3 => ?_) (fun h3 => ?_)
        · refine ⟨_, _, rfl, rfl, ?_⟩
          have e : hourV (.int i) = decide (i < 24) := by
            show (decide (0 ≤ i) && decide (i ≤ 23)) = _
            rw [show decide (0 ≤ i) = true from h3, Bool.true_and]
            exact decide_eq_decide.mpr (by omega)
          show Q (.bl (decide (i < 24))) H
          rw [← e]
          exact k
        · have e : hourV (.int i) = false := by
            show (decide (0 ≤ i) && decide (i ≤ 23)) = _
            rw [show decide (0 ≤ i) = false from Bool.not_eq_true _ ▸ h3, Bool.false_and]
          show Q (.bl false) H
          rw [← e]
          exact k
      · cases v with
        | bl b => exact k
        | int i => exact absurd rfl h2
        | _ => exact absurd h1 (by first | exact Bool.false_ne_true | decide)
    · cases v with
      | int i => exact absurd rfl h1
      | _ => exact k

def sp__law_bent (K : PySem.W.Frag) : Sp := fun vs H Q _ => ∃ (G : Hp) (tp : Addr) (n m : Nat) (x : Str), vs = [.ref tp, .str x] ∧ Tape K G H tp n ∧ n < 2 ^ 50 ∧ Tx m x ∧ m ≤ 50 ∧
  ∀ y H', Tx (2 * m + 1) y → But tp H H' → Tape K G H' tp (n + 3) → Q (.str y) H'
theorem sig_tx : Tx 95 (SIG ++ ("\n" : Str)) := (Tx.add (n := 94) (m := 1) ⟨by rw [sig_len] <;> decide, (Tx.add (Tx.lit _ (Nat.le_refl _)) (Tx.lit _ (Nat.le_refl _))).ok⟩ (Tx.lit _ (by decide)))
theorem three {w : Int} {a b c : V} (h0 : 0 ≤ w) (h1 : w < 3) : ∃ v, atI [a, b, c] w = some v ∧ (v = a ∨ v = b ∨ v = c) := by
  have h : w = 0 ∨ w = 1 ∨ w = 2 := by omega
  rcases h with rfl | rfl | rfl
  · exact ⟨a, rfl, .inl rfl⟩
  · exact ⟨b, rfl, .inr (.inl rfl)⟩
  · exact ⟨c, rfl, .inr (.inr rfl)⟩

theorem ok__law_bent {P : Program} {w : World} {K : PySem.W.Frag} {mg : Str → Option Value} {base : Heap} {f : Addr} {fd : FuncData} (T : Txt K mg) (F : Fun K "_law_bent" "_law_bent" s__law_bent f fd)
    {f__law_draw : Addr} {fd__law_draw : FuncData} (O__law_draw : OkF P w K mg base CX0 1 "_law_draw" ps__law_draw (sp__law_draw K) f__law_draw fd__law_draw)
    (B__law_draw : Binds K fd__law_draw ps__law_draw [])
    {f__law_signs : Addr} {fd__law_signs : FuncData} (O__law_signs : OkF P w K mg base CX0 1 "_law_signs" ps__law_signs (sp__law_signs) f__law_signs fd__law_signs)
    (B__law_signs : Binds K fd__law_signs ps__law_signs []) : FnOk P w K mg base CX0 2 f fd ps__law_bent (sp__law_bent K) := by
  refine F.ok sc__law_bent (fun vs H Q E h => ?_) (fun cdv A outer s H vs Q E hr h => ?_)
  · obtain ⟨G, tp, n, m, x, rfl, T0, hn, tx, hm, k⟩ := h
    rfl
  · obtain ⟨G, tp, n, m, x, rfl, T0, hn, tx, hm, k⟩ := h
    refine ⟨_, (pss_cons (ps_set (i := 2) sc__law_bent.nd rfl (Or.inl rfl) (pe_op op_add_str (pe_f0 O__law_signs B__law_signs (hr.mono (by decide)) pass0) pe_str))
      (pss_cons (ps_par (i := 3) (j := 4) (by rfl) sc__law_bent.nd rfl rfl (by decide) rfl rfl (pa_cons (pe_f O__law_draw B__law_draw (hr.mono (by decide)) pass0 (pa_cons (pv 0) (pa_cons (pe_op op_add (pe_callB call_len_str (by rfl) T.b_len (by decide +kernel) (pa_cons (pv 1) pa_nil)) pe_int) pa_nil))) (pa_cons (pe_ix ix_str (pv 2) (pe_f O__law_draw B__law_draw (hr.mono (by decide)) pass0 (pa_cons (pv 0) (pa_cons (pe_callB call_len_str (by rfl) T.b_len (by decide +kernel) (pa_cons (pv 2) pa_nil)) pa_nil))) (fun _ _ => rfl)) pa_nil)) (by rfl))
      (pss_cons (ps_set (i := 5) sc__law_bent.nd rfl (Or.inl rfl) (pe_f O__law_draw B__law_draw (hr.mono (by decide)) pass0 (pa_cons (pv 0) (pa_cons pe_int pa_nil))))
      (pss_one (ps_ret (pe_op op_add_str (pe_op op_add_str (pe_slice sl_str (pv 1) po_none (po_some (pv 3))) (pe_ix (ix_listK K) (pe_lst (pa_cons (pv 4) (pa_cons (pv 4) (pa_cons pe_str pa_nil)))) (pv 5) (fun _ _ => rfl))) (pe_slice sl_str (pv 1) (po_some (pe_op op_add (pv 3) (pe_ix (ix_listK K) (pe_lst (pa_cons pe_int (pa_cons pe_int (pa_cons pe_int pa_nil)))) (pv 5) (fun _ _ => rfl)))) po_none))))))), ?_⟩
    have hz : x.length ≤ sizeLine := Nat.le_trans tx.len (Nat.le_trans hm (by decide))
    have hxl := tx.len
    have sl : (SIG ++ ("\n" : Str)).length = 95 := by rw [len_add, sig_len]; decide
    refine ⟨rfl, _, _, rfl, rfl, (by rw [sig_len]; decide), ?_⟩
    refine ⟨_, rfl, _, rfl, _, rfl, hz, _, _, rfl, rfl, G, tp, n, _, rfl, T0, by omega, by omega, by omega, fun r1 H1 a1 b1 bt1 T1 => ?_⟩
    refine ⟨_, rfl, _, rfl, _, rfl, _, rfl, (by rw [sl]; decide), G, tp, n + 1, _, rfl, T1, (by rw [sl]; decide), (by rw [sl]; decide), by omega, fun r2 H2 a2 b2 bt2 T2 => ?_⟩
    obtain ⟨c, hc, hcm⟩ := atI_some (xs := (SIG ++ ("\n" : Str)).cps.toList) a2 (by rw [Array.length_toList]; exact b2)
    have txc : Tx 1 (⟨#[c]⟩ : Str) := sig_tx.at hc
    refine ⟨_, _, c, rfl, rfl, (by rw [sl]; decide), hc, _, _, rfl, ?_⟩
    refine ⟨_, rfl, G, tp, n + 2, _, rfl, T2, by decide, by decide, by omega, fun r3 H3 a3 b3 bt3 T3 => ?_⟩
    obtain ⟨v1, e1, o1⟩ := three (a := V.str ⟨#[c]⟩) (b := V.str ⟨#[c]⟩) (c := V.str ("" : Str)) a3 b3
    obtain ⟨y1, rfl, ty1⟩ : ∃ y, v1 = .str y ∧ Tx 1 y := by
      rcases o1 with rfl | rfl | rfl
      · exact ⟨_, rfl, txc⟩
      · exact ⟨_, rfl, txc⟩
      · exact ⟨_, rfl, Tx.lit _ (by decide)⟩
    obtain ⟨v2, e2, o2⟩ := three (a := V.int 0) (b := V.int 1) (c := V.int 1) a3 b3
    obtain ⟨w2, rfl⟩ : ∃ w, v2 = .int w := by
      rcases o2 with rfl | rfl | rfl <;> exact ⟨_, rfl⟩
    refine ⟨_, rfl, _, rfl, _, rfl, _, rfl, hz, _, rfl, _, rfl, (by show 3 ≤ sizeLine; decide), fun p np => ?_⟩
    refine ⟨_, rfl, p, _, _, _, rfl, rfl, SqL.of upd_same, e1, ?_⟩
    have tA := (tx.cut none (some r1)).add ty1
    refine ⟨_, _, rfl, rfl, (by have := (tx.cut none (some r1)).len; have := ty1.len; exact Nat.le_trans (Nat.add_le_add (tx.cut none (some r1)).len ty1.len) (Nat.le_trans (Nat.add_le_add_right hm 1) (by decide))), ?_⟩
    refine ⟨_, rfl, _, rfl, (by show 3 ≤ sizeLine; decide), fun q nq => ?_⟩
    refine ⟨_, rfl, q, _, _, _, rfl, rfl, SqL.of upd_same, e2, _, _, rfl, rfl, _, rfl, _, rfl, hz, ?_⟩
    have tB := tx.cut (some (r1 + w2)) none
    have tC := tA.add tB
    refine ⟨_, _, rfl, rfl, Nat.le_trans (Nat.add_le_add tA.len tB.len) (Nat.le_trans (show m + 1 + m ≤ 101 by omega) (by decide)), ?_⟩
    exact k _ _ (tC.mono (by omega)) (((bt1.trans bt2).trans bt3).trans ((But.new np).trans (But.new nq))) ((T3.new np).new nq)

def sp__law_right : Sp := fun vs H Q _ => ∃ v, vs = [v] ∧ ThN H v ∧ ∀ H', Same H H' → Q (.bl true) H'
theorem eqv_two (a b : Bool) : PyData.eqv (.list [.bool a, .bool b]) (.list [.bool a, .bool b]) = true := by cases a <;> cases b <;> rfl
theorem ThN.mono {G H : Hp} {v : V} (s : Same G H) (h : ThN G v) : ThN H v := ⟨h.1.mono s, h.2⟩

theorem ok__law_right {P : Program} {w : World} {K : PySem.W.Frag} {mg : Str → Option Value} {base : Heap} {f : Addr} {fd : FuncData} (T : Txt K mg) (F : Fun K "_law_right" "_law_right" s__law_right f fd)
    {f_is_name : Addr} {fd_is_name : FuncData} (O_is_name : OkF P w K mg base CX0 1 "is_name" ps_is_name (sp_is_name) f_is_name fd_is_name)
    (KB_is_name_0_thing : KB K fd_is_name ps_is_name 0 ["thing"] (fun _ zs => zs))
    {f_is_hour : Addr} {fd_is_hour : FuncData} (O_is_hour : OkF P w K mg base CX0 2 "is_hour" ps_is_hour (sp_is_hour) f_is_hour fd_is_hour)
    (KB_is_hour_0_thing : KB K fd_is_hour ps_is_hour 0 ["thing"] (fun _ zs => zs))
    {f__law_is_name : Addr} {fd__law_is_name : FuncData} (O__law_is_name : OkF P w K mg base CX0 1 "_law_is_name" ps__law_is_name (sp__law_is_name) f__law_is_name fd__law_is_name)
    (B__law_is_name : Binds K fd__law_is_name ps__law_is_name [])
    {f__law_is_hour : Addr} {fd__law_is_hour : FuncData} (O__law_is_hour : OkF P w K mg base CX0 1 "_law_is_hour" ps__law_is_hour (sp__law_is_hour) f__law_is_hour fd__law_is_hour)
    (B__law_is_hour : Binds K fd__law_is_hour ps__law_is_hour []) : FnOk P w K mg base CX0 3 f fd ps__law_right (sp__law_right) := by
  refine F.ok sc__law_right (fun vs H Q E h => ?_) (fun cdv A outer s H vs Q E hr h => ?_)
  · obtain ⟨v, rfl, hv, k⟩ := h
    rfl
  · obtain ⟨v, rfl, hv, k⟩ := h
    refine ⟨_, (pss_cons (ps_set (i := 1) sc__law_right.nd rfl (Or.inl rfl) (pe_lst (pa_cons (pe_fK0 O_is_name KB_is_name_0_thing (hr.mono (by decide)) pass0 (pk_cons (pv 0) pk_nil)) (pa_cons (pe_fK0 O_is_hour KB_is_hour_0_thing (hr.mono (by decide)) pass0 (pk_cons (pv 0) pk_nil)) pa_nil))))
      (pss_one (ps_ret (pe_and (pe_cmpR (op_eqDK K hr.units) (pv 1) (pe_lst (pa_cons (pe_f O__law_is_name B__law_is_name (hr.mono (by decide)) pass0 (pa_cons (pv 0) pa_nil)) (pa_cons (pe_f O__law_is_hour B__law_is_hour (hr.mono (by decide)) pass0 (pa_cons (pv 0) pa_nil)) pa_nil))) (nomark _)) (pe_one (pe_callB (cr_allK K rfl) (by rfl) T.b_all (by decide +kernel) (pa_cons (pe_lc (own := [("_law_one", 2)]) (g := gName 2) (tt := tYes) (by rfl) sc__law_right.nd (pi_listK K (pv 1)) (blkOk_by (own := [("_law_one", 2)]) (N := nm__law_right) (sc := defScope s__law_right) (by decide +kernel)) (fun _ _ _ _ _ => (pg_name (i := 2) sc__law_right.nd rfl (Or.inl rfl))) (fun _ _ _ _ _ => pts_nil) (fun _ _ _ _ _ => (pe_callB (call_isiKK K) (by rfl) T.b_isinstance (by decide +kernel) (pa_cons (pv 2) (pa_cons (pe_bltn (v := .ty "bool") rfl T.b_bool (by decide +kernel) rfl) pa_nil))))) pa_nil))))))), ?_⟩
    refine ⟨_, rfl, rfl, rfl, v, rfl, hv, fun H1 s1 => ?_⟩
    refine ⟨_, rfl, rfl, rfl, v, rfl, hv.1.mono s1, (by show 2 ≤ sizeLine; decide), fun p np => ?_⟩
    have s2 : Same H (upd H1 p (.lst [.bl (nameV v), .bl (hourV v)])) := s1.trans (same_new np)
    refine ⟨_, rfl, _, rfl, v, rfl, hv.mono s2, fun H3 s3 => ?_⟩
    refine ⟨_, rfl, v, rfl, hv.1.mono (s2.trans s3), (by show 2 ≤ sizeLine; decide), fun q nq => ?_⟩
    have hp : H3 p = some (.lst [.bl (nameV v), .bl (hourV v)]) := s3 _ _ upd_same
    refine ⟨.list [.bool (nameV v), .bool (hourV v)], .list [.bool (nameV v), .bool (hourV v)], .lst (SqL.of (same_new nq _ _ hp)) (.cons (.bl _) (.cons (.bl _) .nil)), .lst (SqL.of upd_same) (.cons (.bl _) (.cons (.bl _) .nil)),
      Fine.shaped (k := 1) (Fine.list fun d hd => ?_), Fine.shaped (k := 1) (Fine.list fun d hd => ?_), _, rfl, ?_⟩
    · rcases List.mem_cons.mp hd with rfl | hd
      · exact Fine.bool _
      · rw [List.mem_singleton.mp hd]
        exact Fine.bool _
    · rcases List.mem_cons.mp hd with rfl | hd
      · exact Fine.bool _
      · rw [List.mem_singleton.mp hd]
        exact Fine.bool _
    rw [eqv_two]
    refine iteT ?_
    have hp2 := same_new (o := .lst [.bl (nameV v), .bl (hourV v)]) nq _ _ hp
    refine ⟨_, rfl, p, rfl, ⟨_, SqL.of hp2⟩, fun D nD => ?_⟩
    refine lc_it walk_list (fun i H' => Same (upd H3 q (.lst [.bl (nameV v), .bl (hourV v)])) H' ∧ H' D = some (.lst ((List.replicate i true).map V.bl))) ⟨same_new nD, upd_same⟩ (fun _ _ _ h => SqL.of (h.1 _ _ hp2)) ?_ ?_
    · rintro i x H4 H5 hi ⟨s4, e4⟩ ⟨rfl, hx⟩
      refine ⟨rfl, ?_⟩
      obtain ⟨b, rfl⟩ : ∃ b, x = .bl b := by
        have hi : i < 2 := hi
        have : i = 0 ∨ i = 1 := by omega
        rcases this with rfl | rfl <;> exact ⟨_, (Option.some.inj hx).symm⟩
      refine ⟨_, rfl, _, _, _, _, true, rfl, .ty _, .base (.bl b), kit_ty (by decide +kernel), ?_⟩
      refine ⟨_, e4, ?_, same_mut s4 nD, ?_⟩
      · rw [List.length_map, List.length_replicate]
        exact Nat.lt_of_lt_of_le hi (by show 2 ≤ sizeLine; decide)
      · rw [List.replicate_succ', List.map_append]
        exact upd_same
    · rintro H4 ⟨s4, e4⟩
      refine ⟨D, List.replicate 2 true, rfl, SqL.of e4, ?_⟩
      exact k _ ((s2.trans s3).trans ((same_new nq).trans s4))

def sp_law (K : PySem.W.Frag) : Sp := fun vs H Q _ => ∃ (a : Addr) (ns : List Int), vs = [.ref a] ∧ SqL K H a (ns.map V.int) ∧ ns.length ≤ 63 ∧ ∀ H', Q (.bl true) H'

theorem ok_law {P : Program} {w : World} {K : PySem.W.Frag} {mg : Str → Option Value} {base : Heap} {f : Addr} {fd : FuncData} (T : Txt K mg) (F : Fun K "law" "law" s_law f fd)
    {f__law_tape : Addr} {fd__law_tape : FuncData} (O__law_tape : OkF P w K mg base CX0 1 "_law_tape" ps__law_tape (sp__law_tape K) f__law_tape fd__law_tape)
    (B__law_tape : Binds K fd__law_tape ps__law_tape [])
    {f__law_bent : Addr} {fd__law_bent : FuncData} (O__law_bent : OkF P w K mg base CX0 2 "_law_bent" ps__law_bent (sp__law_bent K) f__law_bent fd__law_bent)
    (B__law_bent : Binds K fd__law_bent ps__law_bent [])
    {f__law_draw : Addr} {fd__law_draw : FuncData} (O__law_draw : OkF P w K mg base CX0 1 "_law_draw" ps__law_draw (sp__law_draw K) f__law_draw fd__law_draw)
    (B__law_draw : Binds K fd__law_draw ps__law_draw [])
    {f__law_right : Addr} {fd__law_right : FuncData} (O__law_right : OkF P w K mg base CX0 3 "_law_right" ps__law_right (sp__law_right) f__law_right fd__law_right)
    (B__law_right : Binds K fd__law_right ps__law_right []) : FnOk P w K mg base CX0 4 f fd ps_law (sp_law K) := by
  refine F.ok sc_law (fun vs H Q E h => ?_) (fun cdv A outer s H vs Q E hr h => ?_)
  · obtain ⟨a, ns, rfl, hS, hlen, k⟩ := h
    rfl
  · obtain ⟨a, ns, rfl, hS, hlen, k⟩ := h
    refine ⟨_, (pss_cons (ps_set (i := 1) sc_law.nd rfl (Or.inr rfl) (pe_f O__law_tape B__law_tape (hr.mono (by decide)) pass0 (pa_cons (pv 0) pa_nil)))
      (pss_cons (ps_set (i := 2) sc_law.nd rfl (Or.inr rfl) pe_str)
      (pss_cons (ps_for PassesOwn.never rfl (pi_range1 (by rfl) T.b_range (pa_cons pe_int pa_nil)) (pg_name (i := 3) sc_law.nd rfl (Or.inl rfl))
      (pss_cons (ps_set (i := 4) sc_law.nd rfl (Or.inl rfl) (pe_joinK K pe_str (pe_lc (own := [("_law_k", 5)]) (g := gName 5) (tt := tYes) (by rfl) sc_law.nd (pi_range1 (by rfl) T.b_range (pa_cons (pe_op op_add pe_int (pe_f O__law_draw B__law_draw (hr.mono (by decide)) pass0 (pa_cons (pv 1) (pa_cons pe_int pa_nil)))) pa_nil)) (blkOk_by (own := [("_law_k", 5)]) (N := nm_law) (sc := defScope s_law) (by decide +kernel)) (fun _ _ _ _ _ => (pg_name (i := 5) sc_law.nd rfl (Or.inl rfl))) (fun _ _ _ _ _ => pts_nil) (fun _ _ _ _ _ => (pe_ix ix_str (pv 2) (pe_f O__law_draw B__law_draw (hr.mono (by decide)) pass0 (pa_cons (pv 1) (pa_cons pe_int pa_nil))) (fun _ _ => rfl))))))
      (pss_cons (ps_set (i := 6) sc_law.nd rfl (Or.inl rfl) (pe_f O__law_bent B__law_bent (hr.mono (by decide)) pass0 (pa_cons (pv 1) (pa_cons (pv 4) pa_nil))))
      (pss_cons (ps_set (i := 7) sc_law.nd rfl (Or.inl rfl) (pe_lst (pa_cons (pe_op op_sub (pe_f O__law_draw B__law_draw (hr.mono (by decide)) pass0 (pa_cons (pv 1) (pa_cons pe_int pa_nil))) pe_int) (pa_cons (pe_op op_sub (pe_op op_pow pe_int pe_int) (pe_f O__law_draw B__law_draw (hr.mono (by decide)) pass0 (pa_cons (pv 1) (pa_cons (pe_op op_pow pe_int pe_int) pa_nil)))) (pa_cons (pe_op op_sub pe_int (pe_f O__law_draw B__law_draw (hr.mono (by decide)) pass0 (pa_cons (pv 1) (pa_cons (pe_op op_pow pe_int pe_int) pa_nil)))) pa_nil)))))
      (pss_cons (ps_set (i := 8) sc_law.nd rfl (Or.inl rfl) (pe_lst (pa_cons pe_non (pa_cons pe_bl (pa_cons pe_bl (pa_cons (pe_tup (pa_cons (pv 4) pa_nil)) (pa_cons (pe_lst (pa_cons (pv 4) pa_nil)) (pa_cons (pe_disp (pps_cons (pv 4) pe_int pps_nil) (by rfl) (by rfl) (fun z => by cases z) (by decide)) (pa_cons pe_str (pa_cons pe_str (pa_cons (pe_callTy call_str_int (by rfl) T.b_str (by decide +kernel) (pa_cons (pe_ix (ix_listK K) (pv 7) pe_int (fun _ _ => rfl)) pa_nil)) (pa_cons (pe_tup pa_nil) (pa_cons (pe_lst pa_nil) (pa_cons pe_int (pa_cons pe_int (pa_cons pe_int (pa_cons (pe_un un_neg pe_int) pa_nil)))))))))))))))))
      (pss_cons (ps_set (i := 9) sc_law.nd rfl (Or.inl rfl) (pe_lst (pa_cons (pv 4) (pa_cons (pv 6) (pa_cons (pe_f O__law_bent B__law_bent (hr.mono (by decide)) pass0 (pa_cons (pv 1) (pa_cons (pv 6) pa_nil))) (pa_cons (pe_op op_add_str (pv 4) (pv 4)) (pa_cons (pe_ix (ix_listK K) (pv 8) (pe_f O__law_draw B__law_draw (hr.mono (by decide)) pass0 (pa_cons (pv 1) (pa_cons pe_int pa_nil))) (fun _ _ => rfl)) pa_nil)))))))
      (pss_one (ps_for PassesOwn.never rfl (pi_listK K (pe_op op_cat (pv 9) (pv 7))) (pg_name (i := 10) sc_law.nd rfl (Or.inl rfl))
      (pss_one (ps_if (pt_not (pt_val (pe_f O__law_right B__law_right (hr.mono (by decide)) pass0 (pa_cons (pv 10) pa_nil))))
      (pss_one (ps_ret pe_bl))
      pss_nil))))))))))
      (pss_one (ps_ret pe_bl))))), ?_⟩
    refine ⟨_, rfl, a, ns, rfl, hS, fun tp G H0 sG T0 => ?_⟩
    refine ⟨_, rfl, (by decide), (by decide), for_it (walk_range (lo := 0) (n := 16)) (fun i σ H' => ∃ (G : Hp) (n : Nat) (t3 t4 t6 t7 t8 t9 t10 : Option V), σ = [some (.ref a), some (.ref tp), some (.str LET), t3, t4, none, t6, t7, t8, t9, t10] ∧ Tape K G H' tp n ∧ n ≤ 1000 * i) ?_ (fun _ _ _ _ _ => trivial) ?_ ?_⟩
    · exact ⟨G, 0, none, none, none, none, none, none, none, rfl, T0, Nat.le_refl _⟩
    · rintro i x σ H1 H1' hi ⟨G, n, t3, t4, t6, t7, t8, t9, t10, rfl, T1, hn⟩ ⟨rfl, rfl⟩
      have hi16 : i < 16 := hi
      refine ⟨⟨_, rfl⟩, _, rfl, G, tp, n, _, rfl, T1, by decide, by decide, by omega, fun r1 H2 a1 b1 bt1 T2 => ?_⟩
      refine ⟨_, _, rfl, rfl, _, rfl, by omega, by omega, fun D nD => ?_⟩
      have neD : D ≠ tp := T2.ne nD
      have gD : G D = none := T2.free nD
      refine lc_it (walk_range (lo := 0)) (fun j H' => ∃ ys : List Str, ys.length = j ∧ (∀ y ∈ ys, Tx 1 y) ∧ Tape K G H' tp (n + 1 + j) ∧ H' D = some (.lst (ys.map V.str))) ?_ (fun _ _ _ _ => trivial) ?_ ?_
      · exact ⟨[], rfl, (fun y hy => by cases hy), T2.new nD, upd_same⟩
      · rintro j x H3 H3' hj ⟨ys, hl, hy, T3, e3⟩ ⟨rfl, rfl⟩
        refine ⟨rfl, ?_⟩
        refine ⟨_, rfl, _, rfl, G, tp, _, _, rfl, T3, by decide, by decide, by omega, fun r H4 a4 b4 bt4 T4 => ?_⟩
        obtain ⟨c, hc, hcm⟩ := atI_some (xs := LET.cps.toList) a4 (by rw [Array.length_toList]; exact b4)
        refine ⟨_, _, c, rfl, rfl, by decide, hc, _, bt4 _ _ neD e3, ?_, ys ++ [⟨#[c]⟩], ?_, ?_, (T4.mut gD neD).mono (by omega), ?_⟩
        · rw [List.length_map, hl]
          exact Nat.lt_of_lt_of_le hj (Nat.le_trans (show (1 + r1).toNat ≤ 10 by omega) (by decide))
        · rw [List.length_append, hl] <;> rfl
        · intro y hy'
          rcases List.mem_append.mp hy' with q | q
          · exact hy y q
          · rw [List.mem_singleton.mp q]
            exact (Tx.lit (n := 26) "abcdefghijklmnopqrstuvwxyz" (by decide)).at hc
        · rw [List.map_append]
          exact upd_same
      · rintro H5 ⟨ys, hl, hy, T5, e5⟩
        have hl9 : ys.length ≤ 9 := by omega
        refine ⟨_, D, ys, rfl, rfl, .inl (SqL.of e5), ?_, ?_⟩
        · have := lens_le hy
          show _ + ys.length * 0 ≤ _
          omega
        have tx0 : Tx 9 (Txt.join ("" : Str) ys) := (Tx.join0 hy).mono hl9
        generalize ht : Txt.join ("" : Str) ys = text at tx0
        dsimp only [gName]
        -- bent_here
        refine ⟨_, rfl, _, rfl, G, tp, _, 9, _, rfl, T5, by omega, tx0, by decide, fun y1 H6 ty1 bt6 T6 => ?_⟩
        -- numbers
        refine ⟨_, rfl, G, tp, _, _, rfl, T6, by decide, by decide, by omega, fun r7 H7 a7 b7 bt7 T7 => ?_⟩
        refine ⟨_, _, rfl, rfl, _, _, rfl, rfl, ⟨by decide, by decide, by decide⟩, _, rfl, _, _, rfl, rfl, ⟨by decide, by decide, by decide⟩, G, tp, _, _, rfl, T7, by decide, by decide, by omega, fun r8 H8 a8 b8 bt8 T8 => ?_⟩
        refine ⟨_, _, rfl, rfl, _, rfl, _, _, rfl, rfl, ⟨by decide, by decide, by decide⟩, G, tp, _, _, rfl, T8, by decide, by decide, by omega, fun r9 H9 a9 b9 bt9 T9 => ?_⟩
        refine ⟨_, _, rfl, rfl, (by show 3 ≤ sizeLine; decide), fun pN nN => ?_⟩
        generalize hnum : ([.int (r7 - 1), .int (10 ^ (30 : Int).toNat - r8), .int (0 - r9)] : List V) = nums
        obtain ⟨G1, sg1, hN, TN⟩ := T9.grow (o := .lst nums) nN
        generalize upd H9 pN (.lst nums) = H10 at TN ⊢
        -- odd
        refine ⟨_, rfl, (by show 1 ≤ sizeLine; decide), fun q1 m1 => ?_⟩
        obtain ⟨G2, sg2, h2, U1⟩ := TN.grow (o := .tup [.str text]) m1
        generalize upd H10 q1 (.tup [.str text]) = H11 at U1 ⊢
        refine ⟨_, rfl, (by show 1 ≤ sizeLine; decide), fun q2 m2 => ?_⟩
        obtain ⟨G3, sg3, h3, U2⟩ := U1.grow (o := .lst [.str text]) m2
        generalize upd H11 q2 (.lst [.str text]) = H12 at U2 ⊢
        refine fun q3 m3 => ⟨_, rfl, upd_same, [(Sum.inr text, .int 1)], rfl, (by show 1 ≤ 15; decide), ?_⟩
        rw [upd_upd]
        obtain ⟨G4, sg4, h4, U3⟩ := U2.grow (o := .dK (mergeK [] [(Sum.inr text, .int 1)])) m3
        generalize upd H12 q3 (.dK (mergeK [] [(Sum.inr text, .int 1)])) = H13 at U3 ⊢
        have hlog : (r7 - 1).natAbs.log2 < 1920 := Nat.lt_of_le_of_lt (Nat.log2_le_self _) (by omega)
        refine ⟨_, rfl, pN, _, _, .int (r7 - 1), rfl, rfl, SqL.of (U3.1 _ _ (sg4 _ _ (sg3 _ _ (sg2 _ _ hN)))), (by rw [← hnum]; rfl), _, rfl, hlog, ?_⟩
        refine ⟨Nat.zero_le _, fun q4 m4 => ?_⟩
        obtain ⟨G5, sg5, h5, U4⟩ := U3.grow (o := .tup []) m4
        generalize upd H13 q4 (.tup []) = H14 at U4 ⊢
        refine ⟨Nat.zero_le _, fun q5 m5 => ?_⟩
        obtain ⟨G6, sg6, h6, U5⟩ := U4.grow (o := .lst []) m5
        generalize upd H14 q5 (.lst []) = H15 at U5 ⊢
        refine ⟨_, rfl, (by show 15 ≤ sizeLine; decide), fun pO mO => ?_⟩
        generalize hodd : ([.non, .bl true, .bl false, .ref q1, .ref q2, .ref q3, .str "", .str " ", .str (toString (r7 - 1)), .ref q4, .ref q5, .int 24, .int 23, .int 0, .int (-1)] : List V) = odds
        obtain ⟨G7, sg7, h7, U6⟩ := U5.grow (o := .lst odds) mO
        generalize upd H15 pO (.lst odds) = H16 at U6 ⊢
        -- things
        refine ⟨_, rfl, _, rfl, _, rfl, _, rfl, G7, tp, _, 19, _, rfl, U6, by omega, ty1, by decide, fun y2 H17 ty2 bt17 U7 => ?_⟩
        refine ⟨_, rfl, _, rfl, _, _, rfl, rfl, Nat.le_trans (Nat.add_le_add tx0.len tx0.len) (by decide), _, rfl, _, rfl, G7, tp, _, _, rfl, U7, by decide, by decide, by omega, fun r18 H18 a18 b18 bt18 U8 => ?_⟩
        obtain ⟨v, hv, hvm⟩ := atI_some (xs := odds) a18 (by rw [← hodd]; exact b18)
        refine ⟨pO, _, _, v, rfl, rfl, SqL.of (U8.1 _ _ h7), hv, (by show 5 ≤ sizeLine; decide), fun pT nT => ?_⟩
        have hvT : ThN G7 v := by
          rw [← hodd] at hvm
          have s23 : Same G2 G7 := (((sg3.trans sg4).trans sg5).trans sg6).trans sg7
          simp only [List.mem_cons, List.not_mem_nil, or_false] at hvm
          rcases hvm with rfl | rfl | rfl | rfl | rfl | rfl | rfl | rfl | rfl | rfl | rfl | rfl | rfl | rfl | rfl
          · exact ⟨.inl rfl, fun x e => by cases e⟩
          · exact ⟨Th.bl _, fun x e => by cases e⟩
          · exact ⟨Th.bl _, fun x e => by cases e⟩
          · exact ⟨Th.tup (s23 _ _ h2), fun x e => by cases e⟩
          · exact ⟨Th.lst ((((sg4.trans sg5).trans sg6).trans sg7) _ _ h3), fun x e => by cases e⟩
          · exact ⟨Th.dK (((sg5.trans sg6).trans sg7) _ _ h4), fun x e => by cases e⟩
          · exact ⟨Th.str _, fun x e => by injection e with e; rw [← e]; exact Tx.lit _ (by decide)⟩
          · exact ⟨Th.str _, fun x e => by injection e with e; rw [← e]; exact Tx.lit _ (by decide)⟩
          · exact ⟨Th.str _, fun x e => by injection e with e; rw [← e]; exact (Tx.num (k := 2) (by decide) (by show _ < 100; omega)).mono (by decide)⟩
          · exact ⟨Th.tup ((sg6.trans sg7) _ _ h5), fun x e => by cases e⟩
          · exact ⟨Th.lst (sg7 _ _ h6), fun x e => by cases e⟩
          · exact ⟨Th.int _, fun x e => by cases e⟩
          · exact ⟨Th.int _, fun x e => by cases e⟩
          · exact ⟨Th.int _, fun x e => by cases e⟩
          · exact ⟨Th.int _, fun x e => by cases e⟩
        generalize hthings : ([.str text, .str y1, .str y2, .str (text ++ text), v] : List V) = things
        obtain ⟨G8, sg8, h8, U9⟩ := U8.grow (o := .lst things) nT
        generalize upd H18 pT (.lst things) = H19 at U9 ⊢
        have hN8 : G8 pN = some (.lst nums) := sg8 _ _ (sg7 _ _ (sg6 _ _ (sg5 _ _ (sg4 _ _ (sg3 _ _ (sg2 _ _ hN))))))
        have lT : things.length = 5 := by rw [← hthings] <;> rfl
        have lN : nums.length = 3 := by rw [← hnum] <;> rfl
        refine ⟨_, rfl, _, rfl, pT, pN, things, nums, rfl, rfl, U9.1 _ _ h8, U9.1 _ _ hN8, (by rw [lT, lN]; decide), fun pC nC => ?_⟩
        have hall : ∀ x ∈ things ++ nums, ThN G8 x := by
          intro x hx
          rw [← hthings, ← hnum] at hx
          simp only [List.cons_append, List.nil_append, List.mem_cons, List.not_mem_nil, or_false] at hx
          rcases hx with rfl | rfl | rfl | rfl | rfl | rfl | rfl | rfl
          · exact ⟨Th.str _, fun x e => by injection e with e; rw [← e]; exact tx0.mono (by decide)⟩
          · exact ⟨Th.str _, fun x e => by injection e with e; rw [← e]; exact ty1.mono (by decide)⟩
          · exact ⟨Th.str _, fun x e => by injection e with e; rw [← e]; exact ty2.mono (by decide)⟩
          · exact ⟨Th.str _, fun x e => by injection e with e; rw [← e]; exact (tx0.add tx0).mono (by decide)⟩
          · exact hvT.mono sg8
          · exact ⟨Th.int _, fun x e => by cases e⟩
          · exact ⟨Th.int _, fun x e => by cases e⟩
          · exact ⟨Th.int _, fun x e => by cases e⟩
        obtain ⟨G9, sg9, h9, U10⟩ := U9.grow (o := .lst (things ++ nums)) nC
        generalize upd H19 pC (.lst (things ++ nums)) = H20 at U10 ⊢
        refine ⟨pC, rfl, ⟨_, SqL.of (U10.1 _ _ h9)⟩, for_it (walk_list (xs := things ++ nums)) (fun j σ H' => ∃ t10 : Option V, σ = [some (.ref a), some (.ref tp), some (.str LET), some (.int (0 + (i : Int))), some (.str text), none, some (.str y1), some (.ref pN), some (.ref pO), some (.ref pT), t10] ∧ Same H20 H') ?_ (fun _ _ _ _ h => by obtain ⟨_, _, s⟩ := h; exact SqL.of (s _ _ (U10.1 _ _ h9))) ?_ ?_⟩
        · exact ⟨_, rfl, Same.refl _⟩
        · rintro j x σ H21 H21' hj ⟨t10, rfl, s21⟩ ⟨rfl, hx⟩
          have hx' := (hall x (List.mem_of_getElem? hx)).mono (sg9.trans (U10.1.trans s21))
          refine ⟨_, rfl, x, rfl, hx', fun H22 s22 => ⟨_, rfl, ?_⟩⟩
          exact iteF ⟨_, rfl, s21.trans s22⟩
        · rintro σ H21 ⟨t10, rfl, s21⟩
          have U11 := U10.same s21
          exact ⟨G9, _, _, _, _, _, _, _, _, rfl, U11, by omega⟩
    · rintro σ H1 ⟨G, n, t3, t4, t6, t7, t8, t9, t10, rfl, T1, hn⟩
      exact k _
theorem all_mk {l : PySem.W.OpenLaw} {w : World} {K : PySem.W.Frag} {h : Heap} {mg : Str → Option Value} {fa : Addr} {f_is_whole f_is_name f_is_hour f__law_tape f__law_draw f__law_signs f__law_is_name f__law_is_hour f__law_bent f__law_right f_law : Addr} (X : K.In h) (G : h.Ns mainGlobals mg) (hfa : mg "law" = some (.ref fa))
    {od_is_whole an_is_whole od_is_name an_is_name od_is_hour an_is_hour od__law_tape an__law_tape od__law_draw an__law_draw od__law_signs an__law_signs od__law_is_name an__law_is_name od__law_is_hour an__law_is_hour od__law_bent an__law_bent od__law_right an__law_right od_law an_law : Option Addr} {sl_is_whole sl_is_name sl_is_hour sl__law_tape sl__law_draw sl__law_signs sl__law_is_name sl__law_is_hour sl__law_bent sl__law_right sl_law : Array (Option Value)}
    {oc_is_whole dv_is_whole kV_is_whole dc_is_whole pm_is_whole cd_is_whole ct_is_whole oc_is_name kV_is_name dc_is_name pm_is_name cd_is_name ct_is_name oc_is_hour kV_is_hour dc_is_hour pm_is_hour cd_is_hour ct_is_hour oc__law_tape kV__law_tape dc__law_tape pm__law_tape cd__law_tape ct__law_tape oc__law_draw kV__law_draw dc__law_draw pm__law_draw cd__law_draw ct__law_draw oc__law_signs kV__law_signs dc__law_signs pm__law_signs cd__law_signs ct__law_signs oc__law_is_name kV__law_is_name dc__law_is_name pm__law_is_name cd__law_is_name ct__law_is_name oc__law_is_hour kV__law_is_hour dc__law_is_hour pm__law_is_hour cd__law_is_hour ct__law_is_hour oc__law_bent kV__law_bent dc__law_bent pm__law_bent cd__law_bent ct__law_bent oc__law_right kV__law_right dc__law_right pm__law_right cd__law_right ct__law_right oc_law kV_law dc_law pm_law cd_law ct_law : Value}
    {tk_LETTERS tk_LONGEST tk_LAST_HOUR : Tok}
    (a_is_whole : PySem.W.nsIn K mainGlobals "is_whole" = some (some (.ref f_is_whole)))
    (l_is_whole : K.lookup f_is_whole = some ⟨oc_is_whole, od_is_whole, .func (PySem.W.fnOf "is_whole" "is_whole" (defArgs s_is_whole) (defBody s_is_whole) (defScope s_is_whole) dv_is_whole kV_is_whole dc_is_whole pm_is_whole an_is_whole cd_is_whole ct_is_whole), sl_is_whole⟩)
    (c_is_whole : PySem.W.codeIn K cd_is_whole "is_whole" = true) (k_is_whole : PySem.W.keepIn K (.ref f_is_whole) = true)
    {dT_is_whole : Addr} {dO_is_whole : Obj} {dI_is_whole : List Value} {dN_is_whole : Nat} (d1_is_whole : dv_is_whole = .ref dT_is_whole) (d2_is_whole : K.lookup dT_is_whole = some dO_is_whole) (d3_is_whole : dO_is_whole.data = .seq dI_is_whole.toArray dN_is_whole) (d4_is_whole : Vals [(.int 0)] dI_is_whole)
    (a_is_name : PySem.W.nsIn K mainGlobals "is_name" = some (some (.ref f_is_name)))
    (l_is_name : K.lookup f_is_name = some ⟨oc_is_name, od_is_name, .func (PySem.W.fnOf "is_name" "is_name" (defArgs s_is_name) (defBody s_is_name) (defScope s_is_name) .none kV_is_name dc_is_name pm_is_name an_is_name cd_is_name ct_is_name), sl_is_name⟩)
    (c_is_name : PySem.W.codeIn K cd_is_name "is_name" = true) (k_is_name : PySem.W.keepIn K (.ref f_is_name) = true)
    (a_is_hour : PySem.W.nsIn K mainGlobals "is_hour" = some (some (.ref f_is_hour)))
    (l_is_hour : K.lookup f_is_hour = some ⟨oc_is_hour, od_is_hour, .func (PySem.W.fnOf "is_hour" "is_hour" (defArgs s_is_hour) (defBody s_is_hour) (defScope s_is_hour) .none kV_is_hour dc_is_hour pm_is_hour an_is_hour cd_is_hour ct_is_hour), sl_is_hour⟩)
    (c_is_hour : PySem.W.codeIn K cd_is_hour "is_hour" = true) (k_is_hour : PySem.W.keepIn K (.ref f_is_hour) = true)
    (a__law_tape : PySem.W.nsIn K mainGlobals "_law_tape" = some (some (.ref f__law_tape)))
    (l__law_tape : K.lookup f__law_tape = some ⟨oc__law_tape, od__law_tape, .func (PySem.W.fnOf "_law_tape" "_law_tape" (defArgs s__law_tape) (defBody s__law_tape) (defScope s__law_tape) .none kV__law_tape dc__law_tape pm__law_tape an__law_tape cd__law_tape ct__law_tape), sl__law_tape⟩)
    (c__law_tape : PySem.W.codeIn K cd__law_tape "_law_tape" = true) (k__law_tape : PySem.W.keepIn K (.ref f__law_tape) = true)
    (a__law_draw : PySem.W.nsIn K mainGlobals "_law_draw" = some (some (.ref f__law_draw)))
    (l__law_draw : K.lookup f__law_draw = some ⟨oc__law_draw, od__law_draw, .func (PySem.W.fnOf "_law_draw" "_law_draw" (defArgs s__law_draw) (defBody s__law_draw) (defScope s__law_draw) .none kV__law_draw dc__law_draw pm__law_draw an__law_draw cd__law_draw ct__law_draw), sl__law_draw⟩)
    (c__law_draw : PySem.W.codeIn K cd__law_draw "_law_draw" = true) (k__law_draw : PySem.W.keepIn K (.ref f__law_draw) = true)
    (a__law_signs : PySem.W.nsIn K mainGlobals "_law_signs" = some (some (.ref f__law_signs)))
    (l__law_signs : K.lookup f__law_signs = some ⟨oc__law_signs, od__law_signs, .func (PySem.W.fnOf "_law_signs" "_law_signs" (defArgs s__law_signs) (defBody s__law_signs) (defScope s__law_signs) .none kV__law_signs dc__law_signs pm__law_signs an__law_signs cd__law_signs ct__law_signs), sl__law_signs⟩)
    (c__law_signs : PySem.W.codeIn K cd__law_signs "_law_signs" = true) (k__law_signs : PySem.W.keepIn K (.ref f__law_signs) = true)
    (a__law_is_name : PySem.W.nsIn K mainGlobals "_law_is_name" = some (some (.ref f__law_is_name)))
    (l__law_is_name : K.lookup f__law_is_name = some ⟨oc__law_is_name, od__law_is_name, .func (PySem.W.fnOf "_law_is_name" "_law_is_name" (defArgs s__law_is_name) (defBody s__law_is_name) (defScope s__law_is_name) .none kV__law_is_name dc__law_is_name pm__law_is_name an__law_is_name cd__law_is_name ct__law_is_name), sl__law_is_name⟩)
    (c__law_is_name : PySem.W.codeIn K cd__law_is_name "_law_is_name" = true) (k__law_is_name : PySem.W.keepIn K (.ref f__law_is_name) = true)
    (a__law_is_hour : PySem.W.nsIn K mainGlobals "_law_is_hour" = some (some (.ref f__law_is_hour)))
    (l__law_is_hour : K.lookup f__law_is_hour = some ⟨oc__law_is_hour, od__law_is_hour, .func (PySem.W.fnOf "_law_is_hour" "_law_is_hour" (defArgs s__law_is_hour) (defBody s__law_is_hour) (defScope s__law_is_hour) .none kV__law_is_hour dc__law_is_hour pm__law_is_hour an__law_is_hour cd__law_is_hour ct__law_is_hour), sl__law_is_hour⟩)
    (c__law_is_hour : PySem.W.codeIn K cd__law_is_hour "_law_is_hour" = true) (k__law_is_hour : PySem.W.keepIn K (.ref f__law_is_hour) = true)
    (a__law_bent : PySem.W.nsIn K mainGlobals "_law_bent" = some (some (.ref f__law_bent)))
    (l__law_bent : K.lookup f__law_bent = some ⟨oc__law_bent, od__law_bent, .func (PySem.W.fnOf "_law_bent" "_law_bent" (defArgs s__law_bent) (defBody s__law_bent) (defScope s__law_bent) .none kV__law_bent dc__law_bent pm__law_bent an__law_bent cd__law_bent ct__law_bent), sl__law_bent⟩)
    (c__law_bent : PySem.W.codeIn K cd__law_bent "_law_bent" = true) (k__law_bent : PySem.W.keepIn K (.ref f__law_bent) = true)
    (a__law_right : PySem.W.nsIn K mainGlobals "_law_right" = some (some (.ref f__law_right)))
    (l__law_right : K.lookup f__law_right = some ⟨oc__law_right, od__law_right, .func (PySem.W.fnOf "_law_right" "_law_right" (defArgs s__law_right) (defBody s__law_right) (defScope s__law_right) .none kV__law_right dc__law_right pm__law_right an__law_right cd__law_right ct__law_right), sl__law_right⟩)
    (c__law_right : PySem.W.codeIn K cd__law_right "_law_right" = true) (k__law_right : PySem.W.keepIn K (.ref f__law_right) = true)
    (a_law : PySem.W.nsIn K mainGlobals "law" = some (some (.ref f_law)))
    (l_law : K.lookup f_law = some ⟨oc_law, od_law, .func (PySem.W.fnOf "law" "law" (defArgs s_law) (defBody s_law) (defScope s_law) .none kV_law dc_law pm_law an_law cd_law ct_law), sl_law⟩)
    (c_law : PySem.W.codeIn K cd_law "law" = true) (k_law : PySem.W.keepIn K (.ref f_law) = true)
    (z_abs : PySem.W.nsIn K mainGlobals "abs" = some none)
    (z_all : PySem.W.nsIn K mainGlobals "all" = some none)
    (z_bool : PySem.W.nsIn K mainGlobals "bool" = some none)
    (z_int : PySem.W.nsIn K mainGlobals "int" = some none)
    (z_isinstance : PySem.W.nsIn K mainGlobals "isinstance" = some none)
    (z_len : PySem.W.nsIn K mainGlobals "len" = some none)
    (z_list : PySem.W.nsIn K mainGlobals "list" = some none)
    (z_range : PySem.W.nsIn K mainGlobals "range" = some none)
    (z_str : PySem.W.nsIn K mainGlobals "str" = some none)
    (g_LETTERS : PySem.W.nsIn K mainGlobals "LETTERS" = some (some (.str "abcdefghijklmnopqrstuvwxyz" tk_LETTERS)))
    (g_LONGEST : PySem.W.nsIn K mainGlobals "LONGEST" = some (some (.int 8 tk_LONGEST)))
    (g_LAST_HOUR : PySem.W.nsIn K mainGlobals "LAST_HOUR" = some (some (.int 23 tk_LAST_HOUR)))
    : ∃ fd : FuncData, (∀ (s : Shared) (v : Value), BindsTo s fd ⟨[v], []⟩ [("_law_script", v)]) ∧ ∀ base : Heap, K.In base → base.Ns mainGlobals mg → FnOk l.prog w K mg base CX0 4 fa fd ["_law_script"] (sp_law K) := by
  have e := hfa.symm.trans (PySem.W.mg_of X G a_law)
  cases e
  have T : Txt K mg := ⟨PySem.W.mg_none_of X G z_abs, PySem.W.mg_none_of X G z_all, PySem.W.mg_none_of X G z_bool, PySem.W.mg_none_of X G z_int, PySem.W.mg_none_of X G z_isinstance, PySem.W.mg_none_of X G z_len, PySem.W.mg_none_of X G z_list, PySem.W.mg_none_of X G z_range, PySem.W.mg_none_of X G z_str, ⟨_, PySem.W.mg_of X G g_LETTERS, ⟨_, rfl⟩⟩, ⟨_, PySem.W.mg_of X G g_LONGEST, ⟨_, rfl⟩⟩, ⟨_, PySem.W.mg_of X G g_LAST_HOUR, ⟨_, rfl⟩⟩⟩
  have F_is_whole : FunD K "is_whole" "is_whole" (defArgs s_is_whole) (defBody s_is_whole) (defScope s_is_whole) [(.int 0)] [] f_is_whole _ := ⟨⟨_, _, _, _, _, _, _, _, _, _, rfl, l_is_whole, c_is_whole, Or.inr ⟨fun z => (nomatch z), _, _, _, _, d1_is_whole, d2_is_whole, d3_is_whole, d4_is_whole⟩, Or.inl rfl⟩, k_is_whole⟩
  have F_is_name := fun_mk (st := s_is_name) l_is_name c_is_name k_is_name
  have F_is_hour := fun_mk (st := s_is_hour) l_is_hour c_is_hour k_is_hour
  have F__law_tape := fun_mk (st := s__law_tape) l__law_tape c__law_tape k__law_tape
  have F__law_draw := fun_mk (st := s__law_draw) l__law_draw c__law_draw k__law_draw
  have F__law_signs := fun_mk (st := s__law_signs) l__law_signs c__law_signs k__law_signs
  have F__law_is_name := fun_mk (st := s__law_is_name) l__law_is_name c__law_is_name k__law_is_name
  have F__law_is_hour := fun_mk (st := s__law_is_hour) l__law_is_hour c__law_is_hour k__law_is_hour
  have F__law_bent := fun_mk (st := s__law_bent) l__law_bent c__law_bent k__law_bent
  have F__law_right := fun_mk (st := s__law_right) l__law_right c__law_right k__law_right
  have F_law := fun_mk (st := s_law) l_law c_law k_law
  have BD_is_whole_1 : ∃ ds, Vals [(.int 0)] ds ∧ Binds K _ ps_is_whole ds := F_is_whole.binds1 1 0 (fun z => (nomatch z)) rfl fun _ _ _ _ _ _ _ us its h1 h2 => match us, its, h1, h2 with | [_], [_], _, _ => ⟨_, rfl, rfl⟩
  have KB_is_name_0_thing : KB K _ ps_is_name 0 ["thing"] (fun _ zs => zs) := Fun.kb F_is_name 0 _ (fun {_} => (fun _ zs => zs)) (fun _ r => r) fun _ _ _ _ _ _ us ws h1 h2 => match us, ws, h1, h2 with | [], [_], _, _ => rfl
  have KB_is_hour_0_thing : KB K _ ps_is_hour 0 ["thing"] (fun _ zs => zs) := Fun.kb F_is_hour 0 _ (fun {_} => (fun _ zs => zs)) (fun _ r => r) fun _ _ _ _ _ _ us ws h1 h2 => match us, ws, h1, h2 with | [], [_], _, _ => rfl
  have B__law_tape := F__law_tape.binds (ps := ps__law_tape) fun _ _ _ _ _ _ us hl => match us, hl with | [_], _ => rfl
  have B__law_draw := F__law_draw.binds (ps := ps__law_draw) fun _ _ _ _ _ _ us hl => match us, hl with | [_, _], _ => rfl
  have B__law_signs := F__law_signs.binds (ps := ps__law_signs) fun _ _ _ _ _ _ us hl => match us, hl with | [], _ => rfl
  have B__law_is_name := F__law_is_name.binds (ps := ps__law_is_name) fun _ _ _ _ _ _ us hl => match us, hl with | [_], _ => rfl
  have B__law_is_hour := F__law_is_hour.binds (ps := ps__law_is_hour) fun _ _ _ _ _ _ us hl => match us, hl with | [_], _ => rfl
  have B__law_bent := F__law_bent.binds (ps := ps__law_bent) fun _ _ _ _ _ _ us hl => match us, hl with | [_, _], _ => rfl
  have B__law_right := F__law_right.binds (ps := ps__law_right) fun _ _ _ _ _ _ us hl => match us, hl with | [_], _ => rfl
  refine ⟨PySem.W.fnOf "law" "law" (defArgs s_law) (defBody s_law) (defScope s_law) .none kV_law dc_law pm_law an_law cd_law ct_law, fun s v => .of_eq rfl, fun base _ _ => ?_⟩
  have O__law_draw : OkF l.prog w K mg base CX0 1 "_law_draw" ps__law_draw (sp__law_draw K) f__law_draw _ := ⟨ok__law_draw T F__law_draw , PySem.W.mg_of X G a__law_draw, k__law_draw⟩
  have O__law_tape : OkF l.prog w K mg base CX0 1 "_law_tape" ps__law_tape (sp__law_tape K) f__law_tape _ := ⟨ok__law_tape T F__law_tape , PySem.W.mg_of X G a__law_tape, k__law_tape⟩
  have O__law_signs : OkF l.prog w K mg base CX0 1 "_law_signs" ps__law_signs (sp__law_signs) f__law_signs _ := ⟨ok__law_signs T F__law_signs , PySem.W.mg_of X G a__law_signs, k__law_signs⟩
  have O_is_whole : OkF l.prog w K mg base CX0 1 "is_whole" ps_is_whole (sp_is_whole) f_is_whole _ := ⟨ok_is_whole T F_is_whole , PySem.W.mg_of X G a_is_whole, k_is_whole⟩
  have O_is_hour : OkF l.prog w K mg base CX0 2 "is_hour" ps_is_hour (sp_is_hour) f_is_hour _ := ⟨ok_is_hour T F_is_hour O_is_whole BD_is_whole_1, PySem.W.mg_of X G a_is_hour, k_is_hour⟩
  have O_is_name : OkF l.prog w K mg base CX0 1 "is_name" ps_is_name (sp_is_name) f_is_name _ := ⟨ok_is_name T F_is_name , PySem.W.mg_of X G a_is_name, k_is_name⟩
  have O__law_is_name : OkF l.prog w K mg base CX0 1 "_law_is_name" ps__law_is_name (sp__law_is_name) f__law_is_name _ := ⟨ok__law_is_name T F__law_is_name , PySem.W.mg_of X G a__law_is_name, k__law_is_name⟩
  have O__law_is_hour : OkF l.prog w K mg base CX0 1 "_law_is_hour" ps__law_is_hour (sp__law_is_hour) f__law_is_hour _ := ⟨ok__law_is_hour T F__law_is_hour , PySem.W.mg_of X G a__law_is_hour, k__law_is_hour⟩
  have O__law_bent : OkF l.prog w K mg base CX0 2 "_law_bent" ps__law_bent (sp__law_bent K) f__law_bent _ := ⟨ok__law_bent T F__law_bent O__law_draw B__law_draw O__law_signs B__law_signs, PySem.W.mg_of X G a__law_bent, k__law_bent⟩
  have O__law_right : OkF l.prog w K mg base CX0 3 "_law_right" ps__law_right (sp__law_right) f__law_right _ := ⟨ok__law_right T F__law_right O_is_name KB_is_name_0_thing O_is_hour KB_is_hour_0_thing O__law_is_name B__law_is_name O__law_is_hour B__law_is_hour, PySem.W.mg_of X G a__law_right, k__law_right⟩
  exact ok_law T F_law O__law_tape B__law_tape O__law_bent B__law_bent O__law_draw B__law_draw O__law_right B__law_right
theorem walk {l : PySem.W.OpenLaw} {q : Program} {loose : List Str} {XP : (Str → Option Value) → Heap → Prop} {YP : World → Heap → Prop} {d : DefRec} {K : Params → PySem.W.Frag} (hn : l.most = some 63) (hdf : d.params.defaults = [])
    (hY : ∀ (w : World) (h : Heap), YP w h → (K w.params).In h)
    (F : ∀ (w : World) (mg : Str → Option Value) (fa : Addr) (h : Heap), (K w.params).In h → h.Ns mainGlobals mg → mg d.name = some (.ref fa) →
      ∃ fd : FuncData, (∀ (s : Shared) (u : Value), BindsTo s fd ⟨[u], []⟩ [("_law_script", u)]) ∧ ∀ base : Heap, (K w.params).In base → base.Ns mainGlobals mg → FnOk l.prog w (K w.params) mg base CX0 4 fa fd ["_law_script"] (sp_law (K w.params))) :
    PySem.W.WalkO q loose XP YP l.row.toRowW d [] (fun f vs => PySem.call f vs) :=
  L2.walk_of (n := 63) (k := 4) (x := "_law_script") (CX := fun _ => CX0) (sp := fun w => sp_law (K w.params)) hn (by decide) hdf ⟨rfl, by decide, by decide⟩ hY F (fun _ _ a ns hl _ hS => ⟨a, ns, rfl, hS, hl, fun _ => rfl⟩) fun _ _ _ _ _ z => z
end Nk01

open PySem PySem.W PyProof.Rows in
set_option maxRecDepth 100000 in
set_option maxHeartbeats 0 in
theorem PySem.Challenge.cw_nightpaper_k01_names_and_hours_holds : PySem.Challenge.rw_nightpaper_k01_names_and_hours.Holds := by
  w_on; o_law; k_head; (case hw => w_witness2)
  k_fill
  refine Nk01.walk (l := PySem.Challenge.rw_nightpaper_k01_names_and_hours) rfl rfl (fun w h Y => PySem.W.kIn_of Y) ?F
  case F =>
    intro w mg fa h KX G hmg
    refine' Nk01.all_mk KX G hmg ?a_is_whole ?l_is_whole ?c_is_whole ?k_is_whole ?d1_is_whole ?d2_is_whole ?d3_is_whole ?d4_is_whole ?a_is_name ?l_is_name ?c_is_name ?k_is_name ?a_is_hour ?l_is_hour ?c_is_hour ?k_is_hour ?a__law_tape ?l__law_tape ?c__law_tape ?k__law_tape ?a__law_draw ?l__law_draw ?c__law_draw ?k__law_draw ?a__law_signs ?l__law_signs ?c__law_signs ?k__law_signs ?a__law_is_name ?l__law_is_name ?c__law_is_name ?k__law_is_name ?a__law_is_hour ?l__law_is_hour ?c__law_is_hour ?k__law_is_hour ?a__law_bent ?l__law_bent ?c__law_bent ?k__law_bent ?a__law_right ?l__law_right ?c__law_right ?k__law_right ?a_law ?l_law ?c_law ?k_law ?z_abs ?z_all ?z_bool ?z_int ?z_isinstance ?z_len ?z_list ?z_range ?z_str ?g_LETTERS ?g_LONGEST ?g_LAST_HOUR
    (case a_is_whole => k_is)
    (case l_is_whole => k_is)
    (case c_is_whole => k_is)
    (case k_is_whole => k_is)
    (case d1_is_whole => rfl)
    (case d2_is_whole => k_is)
    (case d3_is_whole => rfl)
    (case d4_is_whole => exact .cons ⟨_, rfl⟩ (.nil))
    (case a_is_name => k_is)
    (case l_is_name => k_is)
    (case c_is_name => k_is)
    (case k_is_name => k_is)
    (case a_is_hour => k_is)
    (case l_is_hour => k_is)
    (case c_is_hour => k_is)
    (case k_is_hour => k_is)
    (case a__law_tape => k_is)
    (case l__law_tape => k_is)
    (case c__law_tape => k_is)
    (case k__law_tape => k_is)
    (case a__law_draw => k_is)
    (case l__law_draw => k_is)
    (case c__law_draw => k_is)
    (case k__law_draw => k_is)
    (case a__law_signs => k_is)
    (case l__law_signs => k_is)
    (case c__law_signs => k_is)
    (case k__law_signs => k_is)
    (case a__law_is_name => k_is)
    (case l__law_is_name => k_is)
    (case c__law_is_name => k_is)
    (case k__law_is_name => k_is)
    (case a__law_is_hour => k_is)
    (case l__law_is_hour => k_is)
    (case c__law_is_hour => k_is)
    (case k__law_is_hour => k_is)
    (case a__law_bent => k_is)
    (case l__law_bent => k_is)
    (case c__law_bent => k_is)
    (case k__law_bent => k_is)
    (case a__law_right => k_is)
    (case l__law_right => k_is)
    (case c__law_right => k_is)
    (case k__law_right => k_is)
    (case a_law => k_is)
    (case l_law => k_is)
    (case c_law => k_is)
    (case k_law => k_is)
    (case z_abs => k_is)
    (case z_all => k_is)
    (case z_bool => k_is)
    (case z_int => k_is)
    (case z_isinstance => k_is)
    (case z_len => k_is)
    (case z_list => k_is)
    (case z_range => k_is)
    (case z_str => k_is)
    (case g_LETTERS => k_is)
    (case g_LONGEST => k_is)
    (case g_LAST_HOUR => k_is)
#print axioms PySem.Challenge.cw_nightpaper_k01_names_and_hours_holds
