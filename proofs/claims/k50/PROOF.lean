import PyProof.Rows.All
import Wide.All
import OpenK.AllK
import Wide.FinOn
import HandS.ForMost
import HandS.IsInst
import HandS.Defaults
import HandS.FStr
import HandS.StrMore
import HandS.Flow
import HandS.More
import HandS.Walk
import HandS.Style
import HandS.ForExc
import HandS.ExcInit
import HandS.ExcIs
import HandS.ExcField
import HandS.WordsExc
import KE.KExcIs
import HandS.IntHex
import HandS.Codes
import HandS.Lambda
import HandS.TupAny
import HandS.SortInts
import HandS.Deep
import HandS.Conv
import PyProof.Rows.StrSplitMax
import HandS.Replace
import HandS.ReplaceLit
import HandS.MakeKw
import KE.GoesEnumKw
import HandS.Flt
import KE.KExcInit
import KE.KTryMore
import PyProof.CallStr
import PyProof.CallType
import PyProof.InstEq
import HandS.OwnEq
import PyProof.Conv_bool
import PyProof.ListTruth
import HandS.Small
import HandS.TupLe
import PyProof.ListRange
import HandS.Records
import KE.KIntText
import KE.IntTextLaws
import PyProof.Rows.StrSplit
import KE.DataMinKey
import KE.DataCmp
import HandS.FromBytesMap
import HandS.SortKw
import HandS.Zip
import KE.DatumOrd
import KE.SortKeyHeap
import HandS.EndTab
import HandS.Strs
import HandS.ExcOwn
import HandS.Dict
import HandS.RaiseMore
import HandS.CallLocal
import HandS.ReplaceDef
import HandS.TryOnly
import PyProof.SumWalkG
import KE.SortData
import HandS.TupMul
import HandS.SetKeys
import HandS.Iter
import HandS.RaiseFrom
import HandS.SuiteRaise
import HandS.ExcInitHot
import HandS.RaiseOp
import HandS.ExcBuiltin
import HandS.Wide
import HandS.DictComp
import HandS.WordsDict
import HandS.DictTup
import HandS.DictSubView
import PyProof.MeetsIn
import HandS.Sort
import PySem.Challenge.RW_nightpaper_k50_slots_and_bounds
set_option Elab.async false
set_option linter.all false
set_option maxRecDepth 100000
set_option maxHeartbeats 4000000
namespace Np
open PySem L2
section
variable {X : Cx} {k n : Nat} {f : Addr} {fd : FuncData} {ps ks : List Str} {sp : Sp} {x : Str} {p pos : Pos} {e : Expr} {es : List Expr} {kws : List Keyword} {t tk : TA} {v : V}
def KB (K : PySem.W.Frag) (fd : FuncData) (ps : List Str) (n : Nat) (ks : List Str) (gV : List V → List V → List V) : Prop := ∃ g, KBn K fd ps n ks g gV
end
theorem Fun.kb {K : PySem.W.Frag} {x qual : Str} {st : Stmt} {f : Addr} {fd : FuncData} {ps : List Str} (F : Fun K x qual st f fd) (n : Nat) (ks : List Str) (g : {α : Type} → List α → List α → List α)
    (hrel : ∀ {vs zs : List V} {us ws : List Value}, Vals vs us → Vals zs ws → Vals (g vs zs) (g us ws))
    (h : ∀ (kV doc pm : Value) (an : Option Addr) (cdv ct : Value) (us ws : List Value), us.length = n → ws.length = ks.length → bindArgs (PySem.W.fnOf x qual (defArgs st) (defBody st) (defScope st) .none kV doc pm an cdv ct) ⟨us, ks.zip ws⟩ = pure (ps.zip (g us ws))) : KB K fd ps n ks g := by
  obtain ⟨oc, od, kV, doc, pm, an, cdv, ct, osl, rfl, lk, hcd⟩ := F.ex
  exact ⟨fun us ws => g us ws, ⟨fun s us ws X l1 l2 => .of_eq (h kV doc pm an cdv ct us ws l1 l2), fun r1 r2 => hrel r1 r2⟩⟩
theorem same_new {H : Hp} {p : Addr} {o : HO} (h : H p = none) : Same H (upd H p o) := fun a u e => by
  rw [upd_ne (ne_of_none e h)]
  exact e
theorem same_mut {G H : Hp} {p : Addr} {o : HO} (e : Same G H) (h : G p = none) : Same G (upd H p o) := fun a u ha => by
  rw [upd_ne (ne_of_none ha h)]
  exact e a u ha
theorem same_both {G H : Hp} {p : Addr} {o : HO} (e : Same G H) : Same (upd G p o) (upd H p o) := fun a u ha => by
  by_cases hp : a = p
  · subst hp
    rw [upd_same] at ha
    rw [upd_same]
    exact ha
  · rw [upd_ne hp] at ha
    rw [upd_ne hp]
    exact e a u ha
end Np
namespace Np
open PySem L2
/-- data that can be held beside others: k the depth -/
def Fine (k : Nat) (d : PyData) : Prop := PyData.canLay0 d = true ∧ PyData.depth d ≤ k
theorem canLayAll_of : ∀ {ds : List PyData}, (∀ d ∈ ds, PyData.canLay0 d = true) → PyData.canLayAll0 ds = true
  | [], _ => rfl
  | d :: ds, h => by
    show (PyData.canLay0 d && PyData.canLayAll0 ds) = true
    rw [h d List.mem_cons_self, canLayAll_of fun x hx => h x (List.mem_cons_of_mem _ hx)] <;> rfl
theorem depthAll_of {k : Nat} : ∀ {ds : List PyData}, (∀ d ∈ ds, PyData.depth d ≤ k) → PyData.depthAll ds ≤ k
  | [], _ => Nat.zero_le _
  | d :: ds, h => by
    show max (PyData.depth d) (PyData.depthAll ds) ≤ k
    exact Nat.max_le.mpr ⟨h d List.mem_cons_self, depthAll_of fun x hx => h x (List.mem_cons_of_mem _ hx)⟩
theorem Fine.list {k : Nat} {ds : List PyData} (h : ∀ d ∈ ds, Fine k d) : Fine (k + 1) (.list ds) := ⟨canLayAll_of fun d hd => (h d hd).1, Nat.succ_le_succ (depthAll_of fun d hd => (h d hd).2)⟩
theorem Fine.tuple {k : Nat} {ds : List PyData} (h : ∀ d ∈ ds, Fine k d) : Fine (k + 1) (.tuple ds) := ⟨canLayAll_of fun d hd => (h d hd).1, Nat.succ_le_succ (depthAll_of fun d hd => (h d hd).2)⟩
theorem Fine.int (i : Int) : Fine 0 (.int i) := ⟨rfl, Nat.le_refl _⟩
theorem Fine.bool (b : Bool) : Fine 0 (.bool b) := ⟨rfl, Nat.le_refl _⟩
theorem Fine.none : Fine 0 .none := ⟨rfl, Nat.le_refl _⟩
theorem Fine.str {x : Str} (h : PyData.strOk x = true) : Fine 0 (.str x) := ⟨h, Nat.le_refl _⟩
theorem Fine.mono {j k : Nat} {d : PyData} (h : Fine j d) (hk : j ≤ k) : Fine k d := ⟨h.1, Nat.le_trans h.2 hk⟩
theorem Fine.shaped {k : Nat} {d : PyData} (h : Fine k d) (hk : k ≤ 64 := by decide) : SeqAt.shaped d = true := by
  unfold SeqAt.shaped
  rw [h.1, decide_eq_true (Nat.le_trans h.2 hk)] <;> rfl
theorem fine_ints (ns : List Int) : Fine 1 (.list (ns.map PyData.int)) := Fine.list fun d hd => by
  obtain ⟨i, _, rfl⟩ := List.mem_map.mp hd
  exact Fine.int i
theorem shaped_ints (ns : List Int) : SeqAt.shaped (.list (ns.map PyData.int)) = true := (fine_ints ns).shaped
theorem eqv_nil (ds : List PyData) : PyData.eqv (.list ds) (.list []) = ds.isEmpty := by
  cases ds <;> rfl
end Np
namespace Np
open PySem L2
/-- a thing of a built-in kind -/
def Th (H : Hp) (v : V) : Prop := v = .non ∨ (∃ b, v = .bl b) ∨ (∃ i, v = .int i) ∨ (∃ x, v = .str x) ∨ (∃ a xs, v = .ref a ∧ H a = some (.lst xs)) ∨ (∃ a xs, v = .ref a ∧ H a = some (.tup xs)) ∨ (∃ a kvs, v = .ref a ∧ H a = some (.dK kvs))
theorem Th.mono {G H : Hp} {v : V} (s : Same G H) (h : Th G v) : Th H v := by
  rcases h with h | h | h | h | ⟨a, xs, e, h⟩ | ⟨a, xs, e, h⟩ | ⟨a, xs, e, h⟩
  · exact .inl h
  · exact .inr (.inl h)
  · exact .inr (.inr (.inl h))
  · exact .inr (.inr (.inr (.inl h)))
  · exact .inr (.inr (.inr (.inr (.inl ⟨a, xs, e, s _ _ h⟩))))
  · exact .inr (.inr (.inr (.inr (.inr (.inl ⟨a, xs, e, s _ _ h⟩)))))
  · exact .inr (.inr (.inr (.inr (.inr (.inr ⟨a, xs, e, s _ _ h⟩)))))
theorem Th.bl {H : Hp} (b : Bool) : Th H (.bl b) := .inr (.inl ⟨b, rfl⟩)
theorem Th.int {H : Hp} (i : Int) : Th H (.int i) := .inr (.inr (.inl ⟨i, rfl⟩))
theorem Th.str {H : Hp} (x : Str) : Th H (.str x) := .inr (.inr (.inr (.inl ⟨x, rfl⟩)))
theorem Th.lst {H : Hp} {a : Addr} {xs : List V} (h : H a = some (.lst xs)) : Th H (.ref a) := .inr (.inr (.inr (.inr (.inl ⟨a, xs, rfl, h⟩))))
theorem Th.tup {H : Hp} {a : Addr} {xs : List V} (h : H a = some (.tup xs)) : Th H (.ref a) := .inr (.inr (.inr (.inr (.inr (.inl ⟨a, xs, rfl, h⟩)))))
theorem Th.dK {H : Hp} {a : Addr} {xs : List (Key × V)} (h : H a = some (.dK xs)) : Th H (.ref a) := .inr (.inr (.inr (.inr (.inr (.inr ⟨a, xs, rfl, h⟩)))))
theorem len_cut (z : Str) (lo hi : Option Int) : (cutS z lo hi).length ≤ z.length := by
  unfold cutS
  show (List.toArray _).size ≤ _
  rw [List.size_toArray, List.length_take, List.length_drop, Array.length_toList]
  show _ ≤ z.cps.size
  omega
end Np
namespace Np
open PySem L2
section
variable {X : Cx} (K : PySem.W.Frag)
theorem op_in_seqK (h : X.K = K := by rfl) : OpR X (compareOp .In) (rIn K false) := by subst h; exact op_in_seq
theorem op_notIn_seqK (h : X.K = K := by rfl) : OpR X (compareOp .NotIn) (rIn K true) := by subst h; exact op_notIn_seq
theorem op_neDK (hu : X.A.units + 64 < cLine) (h : X.K = K := by rfl) : OpR X (compareOp .NotEq) (rNeD K) := by subst h; exact op_neD hu
theorem ix_listK (h : X.K = K := by rfl) : IxR X (rIxL K) := by subst h; exact ix_list
theorem ix_tupK (h : X.K = K := by rfl) : IxR X (rIxT K) := by subst h; exact ix_tup
theorem sl_listK (h : X.K = K := by rfl) : SlR X (rSlL K) := by subst h; exact sl_list
def rLenK : List V → Hp → VK → Prop := fun xs H Q => ∃ p ys, xs = [.ref p] ∧ (SqL K H p ys ∨ SqT K H p ys) ∧ Q (.int ys.length) H
theorem call_lenK (h : X.K = K := by rfl) : CallR X (.builtin "len") (rLenK K) := by subst h; exact call_len_seq
def rListK : List V → Hp → VK → Prop := fun xs H Q => ∃ p ys, xs = [.ref p] ∧ (SqL K H p ys ∨ SqT K H p ys) ∧ ∀ l, H l = none → Q (.ref l) (upd H l (.lst ys))
theorem call_listK (h : X.K = K := by rfl) : CallR X (.type "list") (rListK K) := by subst h; exact call_list_of
def rTupleK : List V → Hp → VK → Prop := fun xs H Q => ∃ p ys, xs = [.ref p] ∧ ((SqL K H p ys ∧ ∀ l, H l = none → Q (.ref l) (upd H l (.tup ys))) ∨ (SqT K H p ys ∧ Q (.ref p) H))
theorem call_tupleK (h : X.K = K := by rfl) : CallR X (.type "tuple") (rTupleK K) := by subst h; exact call_tuple_of
theorem cr_sumK (hc : X.calm = true) (h : X.K = K := by rfl) : CallR X (.builtin "sum") (rSum K) := by subst h; exact cr_sum hc
theorem cr_anyK (hc : X.calm = true) (h : X.K = K := by rfl) : CallR X (.builtin "any") (rAny K) := by subst h; exact cr_any hc
theorem pi_listK {tg l : Expr} {tl : TE} (hl : PE X l tl) (h : X.K = K := by rfl) : PI X tg l (iList K tl) := by subst h; exact pi_list hl
theorem pi_tupK {tg l : Expr} {tl : TE} (hl : PE X l tl) (h : X.K = K := by rfl) : PI X tg l (iTup K tl) := by subst h; exact pi_tup hl
theorem pg_tupK {es : List Expr} {k n : Nat} {t : TGs} {pos : Pos} (hc : X.calm = true) (h' : PGs X es t)
    (hn : (assignEach es X.env).length = n := by rfl) (hst : (assignEach es X.env).findIdx? (·.1) = none := by rfl) (h : X.K = K := by rfl) : PG X (.Tuple es k pos) (gTup K n t) := by subst h; exact pg_tup hc h' hn hst
def rJoinK : V → List V → Hp → VK → Prop := fun x xs H Q => ∃ a p, ∃ ys : List Str, x = .str a ∧ xs = [.ref p] ∧ (SqL K H p (ys.map V.str) ∨ SqT K H p (ys.map V.str)) ∧
      (ys.map (·.length)).sum + ys.length * a.length ≤ 16777216 ∧ Q (.str (Txt.join a ys)) H
theorem pe_joinK {o e : Expr} {to te : TE} {apos pos : Pos} (ho : PE X o to) (he : PE X e te) (hs : starEach [e] X.env = [(false, eval e X.env)] := by rfl) (hbase : attributeBase o "join" X.env (eval o X.env) = eval o X.env := by rfl) (hline : (apos.endLine == pos.line) = true := by rfl) (h : X.K = K := by rfl) :
    PE X (.Call (.Attribute o "join" apos) [e] [] pos) (tM1 (rJoinK K) to te) := by subst h; exact pe_join ho he hs hbase hline
theorem pe_bmK {T : String} {name : Str} {id : String} {r : V → List V → Hp → VK → Prop} {o e : Expr} {es : List Expr} {to : TE} {t : TA} {apos cpos : Pos} (pa : PlainAttrs T) (slot : Slot T name id) (hty : typeOf (.builtin id) = pure (.type "method_descriptor")) (hm : MtR X id r) (ho : PE X o to) (ha : PA X (e :: es) t)
    (hbase : attributeBase o name X.env (eval o X.env) = eval o X.env := by rfl)
    (hfew : ((backTo cpos (starEach (e :: es) X.env)).all (fun x => !x.1) && (backToKw cpos (keywordEach [] X.env)).all (fun x => x.1.isSome)
      && decide ((e :: es).length + ([] : List Keyword).length + (if ([] : List Keyword).isEmpty then 0 else 1) < 30)) = true := by rfl)
    (hline : (apos.endLine == cpos.line) = true := by rfl) (hs : starEach (e :: es) X.env = (false, eval e X.env) :: starEach es X.env := by rfl) (hplain : (backTo cpos (starEach es X.env)).any (·.1) = false := by rfl) (h : X.K = K := by rfl) :
    PE X (.Call (.Attribute o name apos) (e :: es) [] cpos) (tBM K T r to t) := by subst h; exact pe_bm pa slot hty hm ho ha hbase hfew hline hs hplain
theorem pe_bm0K {T : String} {name : Str} {id : String} {r : V → List V → Hp → VK → Prop} {o : Expr} {to : TE} {apos cpos : Pos} (pa : PlainAttrs T) (slot : Slot T name id) (hty : typeOf (.builtin id) = pure (.type "method_descriptor")) (hm : MtR X id r) (ho : PE X o to)
    (hbase : attributeBase o name X.env (eval o X.env) = eval o X.env := by rfl) (hline : (apos.endLine == cpos.line) = true := by rfl) (h : X.K = K := by rfl) : PE X (.Call (.Attribute o name apos) [] [] cpos) (tBM0 K T r to) := by subst h; exact pe_bm0 pa slot hty hm ho hbase hline
end
end Np
namespace Np
open PySem L2
structure Tx (n : Nat) (x : Str) : Prop where
  len : x.length ≤ n
  ok : ∀ c ∈ x.cps.toList, c < 1114112
theorem Tx.strOk {n : Nat} {x : Str} (h : Tx n x) : PyData.strOk x = true := by
  unfold PyData.strOk
  rw [← Array.all_toList]
  exact List.all_eq_true.mpr fun c hc => decide_eq_true (h.ok c hc)
theorem Tx.mono {n m : Nat} {x : Str} (h : Tx n x) (hm : n ≤ m) : Tx m x := ⟨Nat.le_trans h.len hm, h.ok⟩
theorem Tx.cut {n : Nat} {x : Str} (h : Tx n x) (lo hi : Option Int) : Tx n (cutS x lo hi) := by
  refine ⟨Nat.le_trans (len_cut x lo hi) h.len, fun c hc => ?_⟩
  unfold cutS at hc
  exact h.ok c (List.mem_of_mem_drop (List.mem_of_mem_take hc))
theorem Tx.sign {c : Nat} (h : c < 1114112) : Tx 1 (⟨#[c]⟩ : Str) := ⟨Nat.le_refl _, fun d hd => by
  have e : d = c := List.mem_singleton.mp hd
  rw [e]
  exact h⟩
theorem atI_mem {α : Type} {xs : List α} {i : Int} {v : α} (h : atI xs i = some v) : v ∈ xs := by
  obtain ⟨j, _, hj, _⟩ := atI_get h
  exact List.mem_of_getElem? hj
theorem Tx.at {n : Nat} {x : Str} {i : Int} {c : Nat} (h : Tx n x) (e : atI x.cps.toList i = some c) : Tx 1 (⟨#[c]⟩ : Str) := Tx.sign (h.ok c (atI_mem e))
theorem ofString_ok (s : String) : ∀ c ∈ (Str.ofString s).cps.toList, c < 1114112 := fun c hc => by
  rw [Str.ofString_eq_toList] at hc
  obtain ⟨d, _, rfl⟩ := List.mem_map.mp hc
  have h := d.valid
  have e : d.toNat = d.val.toNat := rfl
  rcases h with h | ⟨_, h⟩ <;> omega
theorem ofString_len (s : String) : (Str.ofString s).length = s.length := by
  rw [Str.ofString_eq_toList]
  show (List.toArray _).size = _
  rw [List.size_toArray, List.length_map, String.length_toList]
theorem Tx.num {i : Int} {k : Nat} (hk : 0 < k) (h : i.natAbs < 10 ^ k) : Tx (k + 1) (Str.ofString (toString i)) :=
  ⟨by rw [ofString_len]; exact int_text_length_le10 hk h, ofString_ok _⟩
theorem Tx.lit {n : Nat} (s : String) (h : (Str.ofString s).length ≤ n) : Tx n (Str.ofString s) := ⟨h, ofString_ok s⟩
end Np
namespace Np
open PySem L2
def But (t : Addr) (H H' : Hp) : Prop := ∀ b o, b ≠ t → H b = some o → H' b = some o
theorem But.refl {t : Addr} {H : Hp} : But t H H := fun _ _ _ h => h
theorem But.trans {t : Addr} {H H1 H2 : Hp} (a : But t H H1) (b : But t H1 H2) : But t H H2 := fun c o n h => b c o n (a c o n h)
theorem But.of {t : Addr} {H H' : Hp} (s : Same H H') : But t H H' := fun b o _ h => s b o h
theorem But.mut {t : Addr} {H : Hp} {o : HO} : But t H (upd H t o) := fun b u n h => by rw [upd_ne n]; exact h
theorem But.new {t p : Addr} {H : Hp} {o : HO} (n : H p = none) : But t H (upd H p o) := But.of (same_new n)
/-- a tape at tp, over what stays (G): its cells, how many were begun (at most n), what is left of a great one -/
def Tape (K : PySem.W.Frag) (G H : Hp) (tp : Addr) (n : Nat) : Prop := Same G H ∧ G tp = none ∧ ∃ (c : Addr) (ns : List Int) (at' left : Int),
  SqL K G c (ns.map V.int) ∧ H tp = some (.lst [.ref c, .int at', .int left]) ∧ 0 ≤ at' ∧ at' ≤ n ∧ 0 ≤ left
section
variable {K : PySem.W.Frag} {G H H' : Hp} {tp p : Addr} {n m : Nat} {o : HO}
theorem Tape.step {c : Addr} {ns : List Int} {a b : Int} (s : Same G H) (g : G tp = none) (hc : SqL K G c (ns.map V.int)) (h0 : 0 ≤ a) (h1 : a ≤ n) (h2 : 0 ≤ b) :
    Tape K G (upd H tp (.lst [.ref c, .int a, .int b])) tp n := ⟨same_mut s g, g, c, ns, a, b, hc, upd_same, h0, h1, h2⟩
theorem Tape.at (t : Tape K G H tp n) : ∃ xs, H tp = some (.lst xs) := by
  obtain ⟨_, _, c, ns, a, b, _, h, _⟩ := t
  exact ⟨_, h⟩
theorem Tape.ex (t : Tape K G H tp n) : ∃ u, H tp = some u := by
  obtain ⟨xs, h⟩ := t.at
  exact ⟨_, h⟩
theorem Tape.ne (t : Tape K G H tp n) (h : H p = none) : p ≠ tp := by
  obtain ⟨xs, e⟩ := t.at
  exact fun z => by rw [z, e] at h; cases h
theorem Tape.new (t : Tape K G H tp n) (h : H p = none) : Tape K G (upd H p o) tp n := by
  have e := t.ne h
  obtain ⟨s, g, c, ns, a, b, hc, hT, r⟩ := t
  exact ⟨s.trans (same_new h), g, c, ns, a, b, hc, by rw [upd_ne e.symm]; exact hT, r⟩
/-- another object, that does not stay, changes -/
theorem Tape.mut (t : Tape K G H tp n) (g' : G p = none) (e : p ≠ tp) : Tape K G (upd H p o) tp n := by
  obtain ⟨s, g, c, ns, a, b, hc, hT, r⟩ := t
  exact ⟨same_mut s g', g, c, ns, a, b, hc, by rw [upd_ne e.symm]; exact hT, r⟩
/-- an object stays from now on -/
theorem Tape.keep (t : Tape K G H tp n) (h : H p = some o) (e : p ≠ tp) (g' : G p = none) : Tape K (upd G p o) H tp n := by
  obtain ⟨s, g, c, ns, a, b, hc, hT, r⟩ := t
  refine ⟨fun q u hq => ?_, by rw [upd_ne e.symm]; exact g, c, ns, a, b, (same_new g').seq hc, hT, r⟩
  by_cases z : q = p
  · subst z
    rw [upd_same] at hq
    rw [← hq]
    exact h
  · rw [upd_ne z] at hq
    exact s q u hq
/-- a new object that stays -/
theorem Tape.newK (t : Tape K G H tp n) (h : H p = none) : Tape K (upd G p o) (upd H p o) tp n :=
  (t.new h).keep upd_same (t.ne h) (t.1.free h)
theorem Tape.mono (t : Tape K G H tp n) (h : n ≤ m) : Tape K G H tp m := by
  obtain ⟨s, g, c, ns, a, b, hc, hT, h0, h1, h2⟩ := t
  exact ⟨s, g, c, ns, a, b, hc, hT, h0, by omega, h2⟩
theorem Tape.free (t : Tape K G H tp n) (h : H p = none) : G p = none := t.1.free h
end
end Np
namespace Np
open PySem L2
theorem Tx.empty : Tx 0 (⟨#[]⟩ : Str) := ⟨Nat.le_refl _, fun c hc => by cases hc⟩
end Np
namespace Np
open PySem L2
theorem Tape.grow {K : PySem.W.Frag} {G H : Hp} {tp p : Addr} {n : Nat} {o : HO} (t : Tape K G H tp n) (h : H p = none) : ∃ G1, Same G G1 ∧ G1 p = some o ∧ Tape K G1 (upd H p o) tp n :=
  ⟨upd G p o, same_new (t.free h), upd_same, t.newK h⟩
end Np
namespace Np
open PySem PySem.Spec PyProof.Rows L2
def revS (z : Str) : Str := ⟨z.cps.toList.reverse.toArray⟩
theorem pe_revLK {X : Cx} (K : PySem.W.Frag) {e : Expr} {te : TE} {k : Nat} {p1 p2 p3 pos : Pos} (he : PE X e te) (h : X.K = K := by rfl) : PE X (.Subscript e (.Slice none none (some (.UnaryOp .USub (.Constant (.int 1) k p1) p2)) p3) pos) (tRevL K te) := by subst h; exact pe_revL he
end Np
namespace Np
open PySem L2
theorem Tx.size {n : Nat} {x : Str} (h : Tx n x) (hs : n ≤ 16777216 := by omega) : x.length ≤ sizeLine := by
  rw [sizeLine_eq]
  exact Nat.le_trans h.len hs
end Np
namespace Np
open PySem L2
theorem But.free {t p : Addr} {H H' : Hp} (b : But t H H') (h : H' p = none) (e : p ≠ t) : H p = none := by
  cases q : H p with
  | none => rfl
  | some o => rw [b p o e q] at h; cases h
end Np
set_option Elab.async false
set_option linter.all false
set_option maxRecDepth 100000
set_option maxHeartbeats 4000000
namespace Np
open PySem PySem.Spec PyProof.Rows L2
def exk (a : Addr) (oe : Obj) : HO := .ext fun h => h.get? a = some oe
theorem exk_ok {P : Program} {w : World} {H : Hp} {h : Heap} {a : Addr} {oe : Obj} (e : h.get? a = some oe) : ObjOk P w H h a (exk a oe) :=
  ⟨e, ⟨oe, e⟩, fun _ _ z keep => keep _ z⟩
theorem exk_at {P : Program} {w : World} {H : Hp} {h : Heap} {a : Addr} {oe : Obj} (hok : HOk P w H h) (e : H a = some (exk a oe)) : h.get? a = some oe := by
  have x : ObjOk P w H h a (.ext fun h => h.get? a = some oe) := hok a _ e
  exact x.1
section
variable {X : Cx} {pins : List (Addr × Obj)} {σ : L2.St} {H : Hp} {s : Shared} {a : Addr} {oe : Obj} {vs : Array Value}
/-- an object of fields, new behind the entry and tracked by nobody, is tracked from now on -/
theorem track (I : L2.Inv X pins σ H s) (e : s.heap.get? a = some oe) (hd : oe.data = .fields vs) (na : H a = none) (n0 : X.s_0.heap.get? a = none) (nL : a ≠ X.env.locals) (nP : ∀ p ∈ X.pn ++ pins, p.1 ≠ a) :
    L2.Inv X pins σ (upd H a (exk a oe)) s := by
  have ne_some : ∀ {b : Addr} {u : HO}, H b = some u → b ≠ a := fun hb => ne_of_none hb na
  refine ⟨I.ok, I.os, I.bare, ?_, I.loc, I.cell, ?_, ?_, ?_, ?_, I.len⟩
  · refine ⟨I.base.keep, I.base.slot, fun b o q n x => ?_, I.base.there, fun b xs q => ?_, fun b o u q => ?_, fun b ps q => ?_⟩
    · have hb : b ≠ a := fun z => by rw [z, n0] at q; cases q
      rw [upd_ne hb]
      exact I.base.free b o q n x
    · have q' := I.base.tups b xs q
      rw [upd_ne (ne_some q')]
      exact q'
    · have q' := I.base.frzs b o u q
      rw [upd_ne (ne_some q')]
      exact q'
    · obtain ⟨more, q'⟩ := I.base.tbls b ps q
      exact ⟨more, by rw [upd_ne (ne_some q')]; exact q'⟩
  · rw [upd_ne (Ne.symm nL)]
    exact I.free
  · intro x c hc
    have hca : c ≠ a := fun z => by
      obtain ⟨v, o, ho, hcell⟩ := I.cell x c hc
      rw [z, e] at ho
      cases ho
      rw [hd] at hcell
      exact nomatch hcell
    rw [upd_ne hca]
    exact I.freeC x c hc
  · intro p hp
    obtain ⟨p1, p2, p3⟩ := I.pin p hp
    exact ⟨p1, by rw [upd_ne (nP p hp)]; exact p2, p3⟩
  · intro b o q
    by_cases hb : b = a
    · subst hb
      rw [upd_same] at q
      cases q
      exact exk_ok e
    · rw [upd_ne hb] at q
      exact (I.hok b o q).stay (fun _ _ _ z => z) (fun c hc => by rw [upd_ne (ne_some hc)]; exact hc) (fun c xs hc => by rw [upd_ne (ne_some hc)]; exact hc)
end
section
variable {X : Cx} {body suite : List Stmt} {b₀ : Stmt} {x n : Str} {i : Nat} {c : Value} {np pos' pos : Pos} {tb : WX → TS} {ts : Addr → Value → Option Addr → TS} {Wout : WX}
/-- the ends of the suite of a clause whose exception is kept: its name goes, the exception is tracked -/
def endsK (a : Addr) (oe : Obj) (i : Nat) (D : Ends) : Ends :=
  ⟨fun σ' H' => D.nx (σ'.set i none) (upd H' a (exk a oe)), fun v H' => D.rt v (upd H' a (exk a oe)), fun σ' H' => D.bk (σ'.set i none) (upd H' a (exk a oe)), fun σ' H' => D.ct (σ'.set i none) (upd H' a (exk a oe))⟩
end
structure Kept (H : Hp) (a C : Addr) (d : Option Addr) (fs : List (Str × V)) : Prop where
  ex : ∃ oe vs, H a = some (exk a oe) ∧ Zc (.ref C) d oe ∧ oe.data = .fields vs
  dc : ∀ dd, d = some dd → H dd = some (.xd fs)
theorem Kept.mono {H H' : Hp} {a C : Addr} {d : Option Addr} {fs : List (Str × V)} (k : Kept H a C d fs) (s : Same H H') : Kept H' a C d fs := by
  obtain ⟨oe, vs, h1, h2, h3⟩ := k.ex
  exact ⟨⟨oe, vs, s _ _ h1, h2, h3⟩, fun dd e => s _ _ (k.dc dd e)⟩
/-- what the clause's end tracks is a kept exception -/
theorem Kept.of {H : Hp} {a C : Addr} {d : Option Addr} {fs : List (Str × V)} {oe : Obj} {vs : Array Value} (na : H a = none) (z : Zc (.ref C) d oe) (dt : oe.data = .fields vs) (hd : ∀ dd, d = some dd → H dd = some (.xd fs)) : Kept (upd H a (exk a oe)) a C d fs :=
  ⟨⟨oe, vs, upd_same, z, dt⟩, fun dd e => by rw [upd_ne (ne_of_none (hd dd e) na)]; exact hd dd e⟩
theorem Kept.inst {X : Cx} {pins : List (Addr × Obj)} {σ : L2.St} {H : Hp} {s : Shared} {a C : Addr} {d : Option Addr} {fs : List (Str × V)} (I : L2.Inv X pins σ H s) (k : Kept H a C d fs) :
    ∃ oe od, PySem.W.InstAt s.heap a oe C od ∧ ∀ dd, d = some dd → ∃ (o : Obj) (mA : Str → Option Value), od = some o ∧ (∀ name, PySem.W.lookIn name o = some (mA name)) ∧ ∀ f, RelO (fs.lookup f) (mA f) := by
  obtain ⟨oe, vs, h1, z, dt⟩ := k.ex
  have ha := exk_at I.hok h1
  have nc : PySem.W.notCls oe = true := by unfold PySem.W.notCls; rw [dt] <;> rfl
  cases d with
  | none => exact ⟨oe, none, ⟨ha, z.1, nc, by rw [z.2] <;> trivial⟩, fun dd e => nomatch e⟩
  | some dd =>
    have hx : ObjOk X.prog X.w H s.heap dd (.xd fs) := I.hok dd _ (k.dc dd rfl)
    obtain ⟨mA, hns, hr⟩ := hx
    obtain ⟨o, ho, hl⟩ := lookIn_ns hns
    exact ⟨oe, some o, ⟨ha, z.1, nc, by rw [z.2] <;> exact ho⟩, fun _ _ => ⟨o, mA, rfl, hl, hr⟩⟩
/-- isinstance(kept, c); isinstance(kept, (c1, c2, ..)) -/
def rIsX (K : PySem.W.Frag) : List V → Hp → VK → Prop := fun xs H Q => ∃ (a C : Addr) (d : Option Addr) (fs : List (Str × V)) (c : V) (u : Value) (b : Bool), xs = [.ref a, c] ∧ Kept H a C d fs ∧ ExcC K C ∧ ClsV c u ∧ PySem.W.kitOne K (.ref C) u = some b ∧ Q (.bl b) H
def rIsXT (K : PySem.W.Frag) : List V → Hp → VK → Prop := fun xs H Q => ∃ (a C tp : Addr) (d : Option Addr) (fs : List (Str × V)) (cs : List V) (us : List Value) (b : Bool), xs = [.ref a, .ref tp] ∧ Kept H a C d fs ∧ ExcC K C ∧ H tp = some (.tup cs) ∧ Paired ClsV cs us ∧ PySem.W.kitAny K (.ref C) us = some b ∧ Q (.bl b) H
theorem kitx_kept {K : PySem.W.Frag} {a C : Addr} {oe : Obj} {od : Option Obj} (E : ExcC K C) : PySem.W.KitX K (.ref a) (.ref C) (fun h => PySem.W.InstAt h a oe C od) :=
  PySem.W.kitx_exc (by obtain ⟨cd, hc, _⟩ := PySem.W.any_some E.hd; rw [hc]; rfl) E.hg E.hk E.hs E.ha E.hn E.ht E.hm
theorem call_isX {X : Cx} (K : PySem.W.Frag) (hK : X.K = K := by rfl) : CallR X (.builtin "isinstance") (rIsX K) := by
  subst hK
  intro pins s σ H xs us Q I r h
  obtain ⟨a, C, d, fs, c, u, b, rfl, kp, E, cv, kt, q⟩ := h
  obtain ⟨u1, u2, rfl, r1, r2⟩ := vals2 r
  cases (show u1 = Value.ref a from r1)
  have e2 := cv.eq r2
  subst e2
  obtain ⟨oe, od, J, _⟩ := kp.inst I
  exact PySem.W.kia_one (kitx_kept E) I.kIn J kt (fun z => nomatch z) fun tk => ⟨.bl b, H, I.tok tk, rfl, q⟩
theorem call_isXT {X : Cx} (K : PySem.W.Frag) (hK : X.K = K := by rfl) : CallR X (.builtin "isinstance") (rIsXT K) := by
  subst hK
  intro pins s σ H xs us Q I r h
  obtain ⟨a, C, tp, d, fs, cs, ws, b, rfl, kp, E, hT, cv, kt, q⟩ := h
  obtain ⟨u1, u2, rfl, r1, r2⟩ := vals2 r
  cases (show u1 = Value.ref a from r1)
  cases (show u2 = Value.ref tp from r2)
  obtain ⟨oe, od, J, _⟩ := kp.inst I
  obtain ⟨_, its, rv, o, h1, h2, n, h3⟩ := (show ObjOk X.prog X.w H s.heap tp (.tup cs) from I.hok tp _ hT)
  have e3 := ClsV.all cv rv
  subst e3
  obtain ⟨oc, odd, dt, sl⟩ := o
  simp only at h2 h3
  subst h2 h3
  exact PySem.W.kia_tup (kitx_kept E) I.kIn J h1 kt (fun z => nomatch z) fun tk => ⟨.bl b, H, I.tok tk, rfl, q⟩
/-- kept.f -/
def tFx (K : PySem.W.Frag) (f : Str) (te : TE) : TE := fun σ H Q => te σ H fun x H1 => ∃ (a C dd : Addr) (fs : List (Str × V)) (v : V), x = .ref a ∧ Kept H1 a C (some dd) fs ∧ ExcC K C ∧ PySem.W.findIn K (.ref C) f = some none ∧ fs.lookup f = some v ∧ Q v H1
theorem pe_fx {X : Cx} (K : PySem.W.Frag) {e : Expr} {te : TE} {pos : Pos} {n : Str} (he : PE X e te) (hb : attributeBase e n X.env (eval e X.env) = eval e X.env := by rfl) (hK : X.K = K := by rfl) : PE X (.Attribute e n pos) (tFx K n te) := by
  subst hK
  refine ⟨fun pins s σ H Q I h => ?_⟩
  refine attr_of hb (L2.thn (he.run pins s σ H _ I h) fun u s1 hh => ?_)
  obtain ⟨x, H1, I1, rx, a, C, dd, fs, v, rfl, kp, E, hno, l, q⟩ := hh
  obtain rfl : u = Value.ref a := rx
  obtain ⟨oe, od, J, more⟩ := kp.inst I1
  obtain ⟨o, mA, rfl, hl, hr⟩ := more dd rfl
  obtain ⟨w, hu, ru⟩ := RelO.some_of (v := v) (o := mA n) (by rw [← l]; exact hr n)
  exact HandSPX.exc_get I1.kIn J E.hg E.hk E.hs (PySem.W.findObj_own E.hd hno rfl (by rw [hl, hu])) (handed_of ru) ⟨v, H1, I1.tok _, ru, q⟩
end Np
set_option Elab.async false
set_option linter.all false
set_option maxRecDepth 100000
set_option maxHeartbeats 4000000
namespace Np
open PySem PySem.Spec PyProof.Rows L2
structure FnG (P : Program) (w : World) (K : PySem.W.Frag) (mg : Str → Option Value) (base : Heap) (CX : CXT) (k : Nat) (f : Addr) (fd : FuncData) (ps : List Str) (sp : Sp) : Prop where
  len : ∀ vs H Q E, sp vs H Q E → vs.length = ps.length
  run : ∀ (A : Around) (outer : List Env) (s : Shared) (H : Hp) (args : Args) (us : List Value) (vs : List V) (Q : VK) (E : XK), A.guards = some [] → Room k A → Env0 P w K mg base A outer s H → BindsTo s fd args (ps.zip us) → Vals vs us → sp vs H Q E →
    codeAny (model P w) A (.call (.ref f) args) (CR CX outer P w H s Q E) s
section
variable {P : Program} {w : World} {K : PySem.W.Frag} {mg : Str → Option Value} {base : Heap} {CX : CXT} {k : Nat} {f : Addr} {fd : FuncData} {ps : List Str} {sp : Sp}
theorem FnG.of (F : FnOk P w K mg base CX k f fd ps sp) : FnG P w K mg base CX k f fd ps sp := ⟨F.len, fun A outer s H args us vs Q E _ hr => F.run A outer s H args us vs Q E hr⟩
end
theorem fn_ofG {CX : CXT} {P : Program} {w : World} {K : PySem.W.Frag} {mg : Str → Option Value} {base : Heap} {k : Nat} {f : Addr} {name qual : Str} {params : Arguments} {body : List Stmt} {scope : Scope} {dV kV doc pm cdv ct oc : Value} {an od : Option Addr}
    {osl : Array (Option Value)} {N ps : List Str} {sp : Sp} (lk : K.lookup f = some ⟨oc, od, .func (PySem.W.fnOf name qual params body scope dV kV doc pm an cdv ct), osl⟩) (hcd : PySem.W.codeIn K cdv qual = true) (S : FnScope N ps scope)
    (len : ∀ vs H Q E, sp vs H Q E → vs.length = ps.length)
    (hbody : ∀ (A : Around) (outer : List Env) (s : Shared) (H : Hp) (vs : List V) (Q : VK) (E : XK), A.guards = some [] → Room k (A.deeper (envOfC qual scope s.heap.objs.size f cdv)) → sp vs H Q E →
      ∃ t, PSs (cxOf CX P w K mg base N qual scope f cdv A outer s H E) body t ∧ t { nx := fun _ H' => Q .non H', rt := Q } (start N vs) H) :
    FnG P w K mg base CX (k + 1) f (PySem.W.fnOf name qual params body scope dV kV doc pm an cdv ct) ps sp := by
  refine ⟨len, fun A outer s H args us vs Q E hgd room e0 hbi rel hsp => ?_⟩
  have hlen := len _ _ _ _ hsp
  have inK : K.In s.heap := e0.mod.kin.keeps fun b o q => (e0.bs b o q).1
  have limit : s.heap.NoLimit := e0.mod.nolimit.keeps fun b o q => (e0.bs b o q).1
  have kinds : ∀ y ∈ ps.zip us, scope.names.lookup y.1 = some .local ∨ (scope.names.lookup y.1 = some .cell ∧ ((cellsFrom (s.heap.objs.size + 1) scope.names []).lookup y.1).isSome = true) := fun ⟨nm, v⟩ hy => by
    rcases S.par nm (List.of_mem_zip hy).1 with z | z
    · exact .inl z
    · exact .inr ⟨z, PySem.W.cellsFrom_some _ _ _ (.inl z)⟩
  refine codeAny_call_function room.depth (inK _ _ lk) rfl S.co S.gen rfl (PySem.W.codeRec_of inK hcd) (hbi _ _ _ _ ?_)
  refine wpAny_newFunctionEnv_cells S.kind kinds fun env henv s1 x => ?_
  subst henv
  refine ⟨limit.keeps x.toInCall.keep, codeAny_func ?_⟩
  obtain ⟨t, ht, hq⟩ := hbody A outer s H vs Q E hgd (room.deeper _) hsp
  have I0 : L2.Inv (cxOf CX P w K mg base N qual scope f cdv A outer s H E) [] (start N vs) H s1 := inv_start S room.hd e0 hlen rel x
  refine wpAny_mono (ht.run [] s1 (start N vs) H _ I0 hq) (fun fl s' hs => ?_) fun _ _ z => z
  have done : ∀ {σ' : L2.St} {H' : Hp} {v : V} {u : Value}, L2.Inv (cxOf CX P w K mg base N qual scope f cdv A outer s H E) [] σ' H' s' → RelV v u → Q v H' → CE outer P w H s Q u s' :=
    fun {σ' H' v u} J rv q => ⟨v, H', J.os, J.bare, J.base, J.hok, rv, q⟩
  cases fl with
  | ret u =>
    obtain ⟨v, σ', H', J, rv, q⟩ := hs
    exact done J rv q
  | next =>
    obtain ⟨σ', H', J, q⟩ := hs
    exact done (v := V.non) (u := Value.none) J rfl q
  | brk =>
    obtain ⟨_, _, _, q⟩ := hs
    exact q.elim
  | cont =>
    obtain ⟨_, _, _, q⟩ := hs
    exact q.elim
section
variable {P : Program} {w : World} {K : PySem.W.Frag} {mg : Str → Option Value} {base : Heap} {x qual : Str} {st : Stmt} {f : Addr} {fd : FuncData} {N ps : List Str} {k : Nat} {sp : Sp}
theorem Fun.okG (F : Fun K x qual st f fd) (S : FnScope N ps (defScope st)) (len : ∀ vs H Q E, sp vs H Q E → vs.length = ps.length)
    (hbody : ∀ (cdv : Value) (A : Around) (outer : List Env) (s : Shared) (H : Hp) (vs : List V) (Q : VK) (E : XK), (A.deeper (envOfC qual (defScope st) s.heap.objs.size f cdv)).guards = some [] → Room k (A.deeper (envOfC qual (defScope st) s.heap.objs.size f cdv)) → sp vs H Q E →
      ∃ t, PSs (cxOf CX0 P w K mg base N qual (defScope st) f cdv A outer s H E).nox (defBody st) t ∧ t { nx := fun _ H' => Q .non H', rt := Q } (start N vs) H) : FnG P w K mg base CX0 (k + 1) f fd ps sp := by
  obtain ⟨oc, od, kV, doc, pm, an, cdv, ct, osl, rfl, lk, hcd⟩ := F.ex
  refine fn_ofG lk hcd S len fun A outer s H vs Q E hgd hr hsp => ?_
  obtain ⟨t, h, q⟩ := hbody cdv A outer s H vs Q E hgd hr hsp
  exact ⟨t, h.nox, q⟩
theorem Fun.okGX (F : Fun K x qual st f fd) (S : FnScope N ps (defScope st)) (len : ∀ vs H Q E, sp vs H Q E → vs.length = ps.length)
    (hbody : ∀ (cdv : Value) (A : Around) (outer : List Env) (s : Shared) (H : Hp) (vs : List V) (Q : VK) (E : XK), (A.deeper (envOfC qual (defScope st) s.heap.objs.size f cdv)).guards = some [] → Room k (A.deeper (envOfC qual (defScope st) s.heap.objs.size f cdv)) → sp vs H Q E →
      ∃ t, PSs (cxOf (L2.CX P w) P w K mg base N qual (defScope st) f cdv A outer s H E) (defBody st) t ∧ t { nx := fun _ H' => Q .non H', rt := Q } (start N vs) H) : FnG P w K mg base (L2.CX P w) (k + 1) f fd ps sp := by
  obtain ⟨oc, od, kV, doc, pm, an, cdv, ct, osl, rfl, lk, hcd⟩ := F.ex
  exact fn_ofG lk hcd S len fun A outer s H vs Q E hgd hr hsp => hbody cdv A outer s H vs Q E hgd hr hsp
end
/-- the end: the law's promise at the heap behind the top -/
theorem law_callG {P : Program} {w : World} {K : PySem.W.Frag} {mg mb : Str → Option Value} {CX : CXT} {k : Nat} {fa a : Addr} {fd : FuncData} {x : Str} {sp : Sp} {s₁ : Shared} {vs : List Value} {ns : List Int}
    (inK : K.In s₁.heap) (hmg : s₁.heap.Ns mainGlobals mg) (hmb : s₁.heap.Ns builtinsNs mb) (hbb : ∀ x : Str, x ≠ "__name__" → mb x = bootBuiltins x) (hlim : s₁.heap.NoLimit) (hgens : s₁.gens = #[])
    (hsc : s₁.heap.get? a = some { cls := .type "list", data := .seq vs.toArray }) (hints : IntsAre vs ns) (hlen : ns.length ≤ sizeLine) (hr : Room k callerA)
    (F : ∀ base : Heap, K.In base → base.Ns mainGlobals mg → FnG P w K mg base CX k fa fd [x] sp) (hbind : ∀ (s : Shared) (u : Value), BindsTo s fd ⟨[u], []⟩ [(x, u)])
    (hsp : ∀ H : Hp, Only H → SqL K H a (ns.map V.int) → sp [.ref a] H (fun v _ => v = .bl true) fun _ _ _ => False)
    (hCX : ∀ H e s', CX [] H s₁ (fun _ _ _ => False) e s' → False) :
    codeAny (model P w) callerA (.call (.ref fa) ⟨[.ref a], []⟩) (fun r s' => r = .ok (.ret (.bool true)) ∧ OldK s₁.heap s'.heap ∧ s'.os = s₁.os ∧ AllBare s'.gens) s₁ := by
  have rel := vals_ints hints
  have lv := hints.length
  have core : ∀ H : Hp, Only H → SqL K H a (ns.map V.int) → HOk P w H s₁.heap → (∀ b, H b ≠ none → b = a) → (H a ≠ none → K.lookup a = none) →
      codeAny (model P w) callerA (.call (.ref fa) ⟨[.ref a], []⟩) (fun r s' => r = .ok (.ret (.bool true)) ∧ OldK s₁.heap s'.heap ∧ s'.os = s₁.os ∧ AllBare s'.gens) s₁ := by
    intro H only sq hok onlyA notK
    have ground : ∀ {b : Addr} {o : Obj}, s₁.heap.get? b = some o → H b = none → (hidT s₁.heap H).get? b = some o := fun e n => hidT_get e n
    have noDict : ∀ {b : Addr} {o : Obj} {es : Array DictEntry} {ep : Nat}, s₁.heap.get? b = some o → o.data = .dict es ep → H b = none := fun {b o es ep} e dd => by
      cases q : H b with
      | none => rfl
      | some u =>
        have eb : b = a := onlyA b (by rw [q]; simp)
        subst eb
        rw [hsc] at e
        cases e
        exact nomatch (show Data.seq vs.toArray _ = Data.dict es ep from dd)
    have spaces : ∀ {b : Addr} {m : Str → Option Value}, s₁.heap.Ns b m → (hidT s₁.heap H).Ns b m := fun {b m} ⟨o, es, ep, e, dd, r⟩ => ⟨o, es, ep, ground e (noDict e dd), dd, r⟩
    have kb : K.In (hidT s₁.heap H) := fun b o e => ground (inK b o e) (by
      cases q : H b with
      | none => rfl
      | some u =>
        have eb : b = a := onlyA b (by rw [q]; simp)
        subst eb
        rw [notK (by rw [q]; simp)] at e
        cases e)
    have hMod : Mod K mg (hidT s₁.heap H) := ⟨kb, spaces hmg, ⟨mb, spaces hmb, hbb⟩, let ⟨mc, h1, h2⟩ := hlim; ⟨mc, spaces h1, h2⟩⟩
    have e0 : Env0 P w K mg (hidT s₁.heap H) callerA [] s₁ H := ⟨rfl, hMod, fun b o e => of_hidT e, Nat.le_of_eq (hidT_size _ _), trivial, fun b hb => absurd (show b ∈ ([] : List Addr) from hb) (by simp), hok, .of_eq hgens⟩
    refine codeAny_mono ((F _ kb (spaces hmg)).run callerA [] s₁ H ⟨[.ref a], []⟩ [.ref a] [.ref a] _ _ rfl hr e0 (hbind s₁ (.ref a)) (.cons rfl .nil) (hsp H only sq)) fun r s' hh => ?_
    cases r with
    | error e => exact (hCX H e s' hh).elim
    | ok fl =>
      cases fl with
      | next => exact False.elim hh
      | brk => exact False.elim hh
      | cont => exact False.elim hh
      | ret u =>
        obtain ⟨v, H', eos, bare, un, hok', rv, q⟩ := hh
        have ev : v = .bl true := q
        subst ev
        obtain rfl : u = Value.bool true := rv
        refine ⟨rfl, OldK.of_keep fun b o e => ?_, eos, bare⟩
        cases q2 : H b with
        | none => exact un.keep b o e q2 (by intro z; exact absurd (show b ∈ ([] : List Addr) from z) (by simp)) (by simp)
        | some u =>
          rcases only b with z | ⟨ob, xs, z⟩
          · rw [q2] at z
            cases z
          · obtain ⟨e1, _⟩ := hok b _ z
            obtain ⟨e2, _⟩ := hok' b _ (un.frzs b ob _ z)
            rw [e] at e1
            cases e1
            exact e2
  cases hk : K.lookup a with
  | some o =>
    have e := inK a o hk
    rw [hsc] at e
    cases e
    refine core (fun _ => none) (fun _ => .inl rfl) (.inr ⟨_, vs.toArray, _, hk, rfl, rfl, rfl, by rw [List.size_toArray, lv]; exact hlen, by simpa using rel⟩) (fun b u z => nomatch (show (none : Option HO) = some u from z)) (fun b z => absurd rfl z) fun z => absurd rfl z
  | none =>
    refine core (fun b => if b = a then some (.frz { cls := .type "list", data := .seq vs.toArray } (.lst (ns.map V.int))) else none) (fun b => ?_) (.inl (.inr ⟨{ cls := .type "list", data := .seq vs.toArray }, if_pos rfl⟩)) (fun b u z => ?_) (fun b z => ?_) fun _ => hk
    · by_cases hb : b = a
      · exact .inr ⟨_, _, if_pos hb⟩
      · exact .inl (if_neg hb)
    · by_cases hb : b = a
      · have z' := (if_pos hb).symm.trans z
        cases z'
        subst hb
        exact ⟨hsc, by rw [List.length_map]; exact hlen, vs, _, rel, hsc⟩
      · exact nomatch (if_neg hb).symm.trans z
    · by_cases hb : b = a
      · exact hb
      · exact absurd (if_neg hb) z
theorem walk_ofG {l : PySem.W.OpenLaw} {n k : Nat} {q : Program} {loose : List Str} {XP : (Str → Option Value) → Heap → Prop} {YP : World → Heap → Prop} {d : DefRec} {K : Params → PySem.W.Frag} {CX : World → CXT} {sp : World → Sp} {x : Str}
    (hn : l.most = some n) (hn2 : n ≤ sizeLine) (hdf : d.params.defaults = []) (hr : Room k callerA)
    (hY : ∀ (w : World) (h : Heap), YP w h → (K w.params).In h)
    (F : ∀ (w : World) (mg : Str → Option Value) (fa : Addr) (h : Heap), (K w.params).In h → h.Ns mainGlobals mg → mg d.name = some (.ref fa) →
      ∃ fd : FuncData, (∀ (s : Shared) (u : Value), BindsTo s fd ⟨[u], []⟩ [(x, u)]) ∧
        ∀ base : Heap, (K w.params).In base → base.Ns mainGlobals mg → FnG l.prog w (K w.params) mg base (CX w) k fa fd [x] (sp w))
    (hsp : ∀ (w : World) (H : Hp) (a : Addr) (ns : List Int), ns.length ≤ n → Only H → SqL (K w.params) H a (ns.map V.int) → sp w [.ref a] H (fun v _ => v = .bl true) fun _ _ _ => False)
    (hCX : ∀ (w : World) (H : Hp) (s : Shared) (e : Value) (s' : Shared), CX w [] H s (fun _ _ _ => False) e s' → False) :
    PySem.W.WalkO q loose XP YP l.row.toRowW d [] (fun f vs => PySem.call f vs) := by
  refine Att.attach_call hn hdf fun w s₀ s₁ mg mb fa o pm cd doc a vs ns G Y ho hd hcd hmg hobj hints hlen hg => ?_
  obtain ⟨fd, hb, hF⟩ := F w mg fa _ (hY w _ Y) G.T.g hmg
  exact law_callG (hY w _ Y) G.T.g G.T.b G.T.builtins G.T.nolimit hg hobj hints (Nat.le_trans hlen hn2) hr hF hb (fun H hO hS => hsp w H a ns hlen hO hS) fun H e s' => hCX w H s₁ e s'
structure OkG (P : Program) (w : World) (K : PySem.W.Frag) (mg : Str → Option Value) (base : Heap) (CX : CXT) (k : Nat) (x : Str) (ps : List Str) (sp : Sp) (f : Addr) (fd : FuncData) : Prop where
  ok : FnG P w K mg base CX k f fd ps sp
  m : mg x = some (.ref f)
  kp : PySem.W.keepIn K (.ref f) = true
section
variable {X : Cx} {CX : CXT} {k n : Nat} {f : Addr} {fd : FuncData} {ps ks : List Str} {sp : Sp} {E : L2.St → XK} {x : Str} {p pos : Pos} {e : Expr} {es : List Expr} {kws : List Keyword} {t tk : TA} {dvs : List V} {gV : List V → List V → List V}
theorem pass0At {X : Cx} (σ : L2.St) : PassesAt CX0 X σ E0 := fun _ _ _ _ _ _ h => h.elim
theorem passLAt {X : Cx} (σ : L2.St) : PassesAt (L2.CX X.prog X.w) X σ E0 := fun pins H s e s' I h => passL pins σ H s e s' I h
/-- a def that lets its callee's exceptions out -/
theorem passXAt {X : Cx} {E' : XK} (tk : Takes X (fun cls d _ H => E' cls d H)) (σ : L2.St) : PassesAt (L2.CX X.prog X.w) X σ E' := fun pins H s e s' I h => passes_call tk (fun _ _ _ _ z => z) pins σ H s e s' I h
theorem run_g {pins : List (Addr × Obj)} {σ : L2.St} {H : Hp} {s : Shared} {Q : VK} {args : Args} {us : List Value} {vs : List V} {E : XK} (F : FnG X.prog X.w X.K X.mg X.base CX k f fd ps sp) (hgd : X.A.guards = some []) (hr : Room k X.A) (hb : BindsTo s fd args (ps.zip us)) (hx : PassesAt CX X σ E)
    (I : L2.Inv X pins σ H s) (r : Vals vs us) (h : sp vs H Q E) : codeAny (model X.prog X.w) X.A (.call (.ref f) args) (fun r s' => match r with | .ok (.ret u) => EP X pins σ Q u s' | .ok _ => False | .error e => X.xe e s') s := by
  refine codeAny_mono (F.run X.A X.stack s H args us vs Q E hgd hr I.env0 hb r h) fun r s' hq => ?_
  cases r with
  | error e => exact hx pins H s e s' I hq
  | ok fl =>
    cases fl with
    | ret u => exact I.after hq
    | next => exact False.elim hq
    | brk => exact False.elim hq
    | cont => exact False.elim hq
def tCallE (sp : Sp) (dvs : List V) (E : L2.St → XK) (t : TA) : TE := fun σ H Q => t σ H fun vs H1 => sp (vs ++ dvs) H1 Q (E σ)
def tCallKE (n m : Nat) (sp : Sp) (gV : List V → List V → List V) (E : L2.St → XK) (t tk : TA) : TE := fun σ H Q => t σ H fun vs H1 => tk σ H1 fun zs H2 => vs.length = n ∧ zs.length = m ∧ sp (gV vs zs) H2 Q (E σ)
theorem run_gw {pins : List (Addr × Obj)} {σ : L2.St} {H : Hp} {s : Shared} {Q : VK} {us ds : List Value} {vs : List V} {E : XK} (F : FnG X.prog X.w X.K X.mg X.base CX k f fd ps sp) (hgd : X.A.guards = some []) (hr : Room k X.A) (hb : Binds X.K fd ps ds) (hd : Vals dvs ds) (hx : PassesAt CX X σ E)
    (I : L2.Inv X pins σ H s) (r : Vals vs us) (h : sp (vs ++ dvs) H Q E) : wpAny (model X.prog X.w) X.A (call (.ref f) us) (EP X pins σ Q) X.xe s := by
  have r2 : Vals (vs ++ dvs) (us ++ ds) := r.append hd
  have hl : (us ++ ds).length = ps.length := by rw [← r2.length]; exact F.len _ _ _ _ h
  refine wpAny_call (codeAny_mono (run_g F hgd hr (hb s us I.kIn hl) hx I r2 h) fun r s' hq => ?_)
  cases r with
  | error e => exact hq
  | ok fl => cases fl <;> exact hq
theorem pe_c (O : OkG X.prog X.w X.K X.mg X.base CX k x ps sp f fd) (b : ∃ ds, Vals dvs ds ∧ Binds X.K fd ps ds) (hgd : X.A.guards = some []) (hr : Room k X.A) (hx : ∀ σ, PassesAt CX X σ (E σ)) (ha : PA X (e :: es) t) (hg : Gl X x := by rfl)
    (hdb : (x == ("__debug__" : Str)) = false := by decide) (he : starEach (e :: es) X.env = (false, eval e X.env) :: starEach es X.env := by rfl) (hpl : (backTo pos (starEach es X.env)).any (·.1) = false := by rfl) :
    PE X (.Call (.Name x p) (e :: es) [] pos) (tCallE sp dvs E t) := by
  obtain ⟨ds, hv, hb⟩ := b
  refine ⟨fun pins s σ H Q I h => ?_⟩
  refine wpAny_Call_Name_kw (ld_glob I hg O.m ?_ hdb)
  refine PySem.W.callWith_K (h₀ := X.base) I.ok.mod.kin O.kp (L2.thn (ha.run pos pins s σ H _ I h) fun us s1 hh => ?_) he hpl
  obtain ⟨vs, H1, I1, r, q⟩ := hh
  exact ⟨I1.kIn, run_gw O.ok hgd hr hb hv (hx σ) I1 r q⟩
theorem run_gk {pins : List (Addr × Obj)} {σ : L2.St} {H : Hp} {s : Shared} {Q : VK} {us ws : List Value} {vs zs : List V} {E : XK} (F : FnG X.prog X.w X.K X.mg X.base CX k f fd ps sp) (hgd : X.A.guards = some []) (hr : Room k X.A) (b : KB X.K fd ps n ks gV) (hx : PassesAt CX X σ E)
    (I : L2.Inv X pins σ H s) (r : Vals vs us) (rz : Vals zs ws) (l1 : vs.length = n) (l2 : zs.length = ks.length) (h : sp (gV vs zs) H Q E) : wpAny (model X.prog X.w) X.A (call (.ref f) us (ks.zip ws)) (EP X pins σ Q) X.xe s := by
  obtain ⟨g, hb⟩ := b
  refine wpAny_call (codeAny_mono (run_g F hgd hr (hb.to s us ws I.kIn (r.length.symm.trans l1) (rz.length.symm.trans l2)) hx I (hb.rel r rz) h) fun r s' hq => ?_)
  cases r with
  | error e => exact hq
  | ok fl => cases fl <;> exact hq
theorem pe_ck0 (O : OkG X.prog X.w X.K X.mg X.base CX k x ps sp f fd) (b : KB X.K fd ps 0 ks gV) (hgd : X.A.guards = some []) (hr : Room k X.A) (hx : ∀ σ, PassesAt CX X σ (E σ))
    (hkw : PK X kws tk) (hg : Gl X x := by rfl) (hall : (backToKw pos (keywordEach kws X.env)).all (·.1.isSome) = true := by rfl) (hks : (backToKw pos (keywordEach kws X.env)).filterMap (·.1) = ks := by rfl)
    (hdb : (x == ("__debug__" : Str)) = false := by decide)
    (hpl : ((backTo pos (starEach [] X.env)).any (·.1) || (backToKw pos (keywordEach kws X.env)).any (·.1.isNone)) = false := by rfl) :
    PE X (.Call (.Name x p) [] kws pos) (tCallKE 0 ks.length sp gV E tNil tk) := by
  refine ⟨fun pins s σ H Q I h => ?_⟩
  refine wpAny_Call_Name_kw (ld_glob I hg O.m ?_ hdb)
  refine PySem.W.callWith_KW0 (h₀ := X.base) I.ok.mod.kin O.kp hall ?_ hpl
  refine L2.thn (hkw.run pos pins s σ H _ I h) fun ws s2 hh2 => ?_
  obtain ⟨zs, H2, I2, rz, l1, l2, q2⟩ := hh2
  refine ⟨I2.kIn, ?_⟩
  rw [hks]
  exact run_gk (us := []) (vs := []) O.ok hgd hr b (hx σ) I2 .nil rz l1 l2 q2
end
def rReprD (K : PySem.W.Frag) : List V → Hp → VK → Prop := fun xs H Q => ∃ (a : Addr) (d : PyData), xs = [.ref a] ∧ Dp K H (.ref a) d ∧ PyData.showable d = true ∧ SeqAt.shaped d = true ∧ d.shown.length ≤ sizeLine ∧ Q (.str d.shown) H
theorem call_reprD {X : Cx} (K : PySem.W.Frag) (hgd : X.A.guards = some []) (hu : X.A.units + 130 < cLine) (hK : X.K = K := by rfl) : CallR X (.builtin "repr") (rReprD K) := by
  subst hK
  intro pins s σ H xs us Q I r h
  obtain ⟨a, d, rfl, dp, sh, shp, hz, q⟩ := h
  obtain ⟨u, rfl, rx⟩ := vals1 r
  cases (show u = Value.ref a from rx)
  obtain ⟨as, rd⟩ := dp.reads I d _ _ rfl
  have hd := SeqAt.depth_of_shaped shp
  have hnd : d.hasDict = false := PyData.hasDict_of_canLay d (SeqAt.canLay_of_shaped shp)
  exact repr_of_reads' rd sh (fun z => by rw [hnd] at z; cases z) hgd (by omega) (fun _ _ z => z) (fun h' t tk keep => ⟨.str d.shown, H, I.kept keep, ⟨_, rfl⟩, q⟩) hz
end Np
set_option Elab.async false
set_option linter.all false
set_option maxRecDepth 100000
set_option maxHeartbeats 4000000
namespace Np
open PySem PySem.Spec PyProof.Rows L2
theorem foldl_reps (a : Array Nat) : ∀ (k : Nat) (b : Array Nat), ((List.replicate k a).foldl (· ++ ·) b).toList = b.toList ++ (List.replicate k a.toList).flatten
  | 0, b => by simp
  | k + 1, b => by
    rw [List.replicate_succ, List.foldl_cons, foldl_reps a k (b ++ a), List.replicate_succ, List.flatten_cons, Array.toList_append, List.append_assoc]
theorem toList_mul (z : Str) (n : Nat) : (Txt.mul z n).cps.toList = (List.replicate n z.cps.toList).flatten := by
  unfold Txt.mul
  by_cases h1 : (n : Int) < 1
  · have e : n = 0 := by omega
    subst e
    rw [if_pos h1] <;> rfl
  · rw [if_neg h1]
    by_cases h2 : ((n : Int) == 1 || z.length == 0) = true
    · rw [if_pos h2]
      rcases Bool.or_eq_true_iff.mp h2 with q | q
      · have e : n = 1 := by have := eq_of_beq q; omega
        subst e
        simp
      · have e : z.length = 0 := eq_of_beq q
        have e2 : z.cps.toList = [] := List.eq_nil_of_length_eq_zero (by rw [Array.length_toList]; exact e)
        rw [e2]
        simp
    · rw [if_neg h2]
      show ((List.replicate (n : Int).toNat z.cps).foldl (· ++ ·) #[]).toList = _
      rw [foldl_reps, Int.toNat_natCast] <;> rfl
theorem Tx.mul {m : Nat} {z : Str} (h : Tx m z) (n : Nat) : Tx (n * m) (Txt.mul z n) := by
  refine ⟨?_, fun c hc => ?_⟩
  · show (Txt.mul z n).cps.size ≤ _
    rw [← Array.length_toList, toList_mul, List.length_flatten, List.map_replicate, List.sum_replicate_nat, Array.length_toList]
    exact Nat.mul_le_mul_left n h.len
  · rw [toList_mul] at hc
    obtain ⟨l, hl, hcl⟩ := List.mem_flatten.mp hc
    rw [List.eq_of_mem_replicate hl] at hcl
    exact h.ok c hcl
def spInit (C : Addr) (names : List Str) : Sp := fun vs H Q _ => ∃ (a : Addr) (ws : List V), vs = .ref a :: ws ∧ ws.length = names.length ∧ H a = some (exo a C none) ∧
  ∀ d H', H d = none → d ≠ a → H' a = some (exo a C (some d)) → H' d = some (exd d (names.zip ws).reverse) → (∀ b, b ≠ a → b ≠ d → H' b = H b) → Q .non H'
theorem mk_tail {C : Addr} {names : List Str} {vs : List V} {H1 : Hp} {Q : XK} (hl : vs.length = names.length) (hs : vs.length ≤ 1000) (k : ∀ d, H1 d = none → Q (.ref C) (some d) (upd H1 d (.xd (names.zip vs).reverse))) :
    vs.length ≤ 1000 ∧ ∀ a, H1 a = none → spInit C names (.ref a :: (vs ++ [])) (upd H1 a (exo a C none))
      (fun v H2 => v = .non ∧ ∃ (d : Addr) (fs : List (Str × V)), H2 a = some (exo a C (some d)) ∧ H2 d = some (exd d fs) ∧ H1 d = none ∧ Q (.ref C) (some d) (upd (del H2 a) d (.xd fs))) (fun _ _ _ => False) := by
  refine ⟨hs, fun a na => ⟨a, vs, by rw [List.append_nil], hl, upd_same, fun d H' nd ne h1 h2 hb => ⟨rfl, d, _, h1, h2, ?_, ?_⟩⟩⟩
  · rw [upd_ne ne] at nd
    exact nd
  · have e : upd (del H' a) d (.xd (names.zip vs).reverse) = upd H1 d (.xd (names.zip vs).reverse) := by
      funext b
      by_cases hbd : b = d
      · rw [hbd, upd_same, upd_same]
      · rw [upd_ne hbd, upd_ne hbd]
        by_cases hba : b = a
        · rw [hba, del_same, na]
        · rw [del_ne hba, hb b hba hbd, upd_ne hba]
    rw [e]
    rw [upd_ne ne] at nd
    exact k d nd
def RaiseC (P : Program) (w : World) (K : PySem.W.Frag) (mg : Str → Option Value) (base : Heap) (C : Addr) (x : Str) (ps names : List Str) : Prop := ∃ (fI : Addr) (fd : FuncData), PySem.W.findIn K (.ref C) "__init__" = some (some (.ref fI)) ∧ PySem.W.typeIn K (.ref fI) = some (.type "function") ∧
  FnOk P w K mg base CX0 1 fI fd ps (spInit C names) ∧ Binds K fd ps []
def spL (K : PySem.W.Frag) : Sp := fun vs H Q _ => ∃ (a : Addr) (ns : List Int), vs = [.ref a] ∧ SqL K H a (ns.map V.int) ∧ ns.length ≤ 63 ∧ ∀ H', Q (.bl true) H'
theorem un130 {k : Nat} {A : Around} (hr : Room k A) : A.units + 130 < cLine := by have := hr.un; omega
end Np
set_option Elab.async false
set_option linter.all false
set_option maxRecDepth 100000
set_option maxHeartbeats 4000000
namespace Np
open PySem PySem.Spec PyProof.Rows L2
inductive DD where
  | non | bl (b : Bool) | int (i : Int) | str (x : Str) | lst (xs : List DD) | tup (xs : List DD) | dic (kvs : List (Key × DD)) | obj (C : Str) (fs : List (Str × DD)) | exc (C : Str) (fs : List (Str × DD)) | raw (a : Addr) | ptr (k : Nat) | tux (xs : List DD)
abbrev CM := Str → Addr
/-- an exception's dict, if it has one -/
def XdAt (H : Hp) (d : Option Addr) (xs : List (Str × V)) : Prop := match d with
  | some d => H d = some (.xd xs)
  | none => xs = []
theorem XdAt.mono {H H' : Hp} {d : Option Addr} {xs : List (Str × V)} (h : XdAt H d xs) (e : Same H H') : XdAt H' d xs := by
  cases d with
  | none => exact h
  | some d => exact e _ _ h
/-- the heap of what stays, and where the things stand that may change -/
structure GH where
  hp : Hp
  ads : List Addr
instance : CoeFun GH (fun _ => Hp) := ⟨GH.hp⟩
instance : Coe GH Hp := ⟨GH.hp⟩
abbrev GH.upd (G : GH) (p : Addr) (o : HO) : GH := ⟨L2.upd G.hp p o, G.ads⟩
structure GS (G G' : GH) : Prop where
  s : Same G.hp G'.hp
  a : G.ads <+: G'.ads
theorem GS.refl (G : GH) : GS G G := ⟨Same.refl _, List.prefix_rfl⟩
theorem GS.trans {G G1 G2 : GH} (e : GS G G1) (e' : GS G1 G2) : GS G G2 := ⟨e.s.trans e'.s, e.a.trans e'.a⟩
theorem GS.free {G G' : GH} (e : GS G G') {l : Addr} (h : G'.hp l = none) : G.hp l = none := e.s.free h
theorem GS.seq {K : PySem.W.Frag} {G G' : GH} {a : Addr} {xs : List V} (e : GS G G') (h : SqL K G.hp a xs) : SqL K G'.hp a xs := e.s.seq h
instance {G G' : GH} : CoeFun (GS G G') (fun _ => ∀ b o, G.hp b = some o → G'.hp b = some o) := ⟨fun h => h.s⟩
theorem prefix_get {α : Type} {l l' : List α} {k : Nat} {a : α} (h : l <+: l') (e : l[k]? = some a) : l'[k]? = some a := by
  obtain ⟨t, rfl⟩ := h
  rw [List.getElem?_append_left (List.getElem?_eq_some_iff.mp e).1]
  exact e
theorem GS.new {G : GH} {p : Addr} {o : HO} (h : G.hp p = none) : GS G (G.upd p o) := ⟨same_new h, List.prefix_rfl⟩
mutual
inductive Rp (K : PySem.W.Frag) (cm : CM) (H : GH) : V → DD → Prop
  | non : Rp K cm H .non .non
  | bl (b : Bool) : Rp K cm H (.bl b) (.bl b)
  | int (i : Int) : Rp K cm H (.int i) (.int i)
  | str (x : Str) : Rp K cm H (.str x) (.str x)
  | lst {a : Addr} {xs : List V} {ds : List DD} : H a = some (.lst xs) → RpA K cm H xs ds → Rp K cm H (.ref a) (.lst ds)
  | tup {a : Addr} {xs : List V} {ds : List DD} : H a = some (.tup xs) → RpA K cm H xs ds → Rp K cm H (.ref a) (.tup ds)
  | dic {a : Addr} {xs : List (Key × V)} {ds : List (Key × DD)} : H a = some (.dK xs) → RpK K cm H xs ds → Rp K cm H (.ref a) (.dic ds)
  | obj {a dx : Addr} {C : Str} {xs : List (Str × V)} {ds : List (Str × DD)} : H a = some (.ins (cm C) dx xs) → RpF K cm H xs ds → Rp K cm H (.ref a) (.obj C ds)
  | exc {a : Addr} {d : Option Addr} {oe : Obj} {vs : Array Value} {C : Str} {xs : List (Str × V)} {ds : List (Str × DD)} : H a = some (exk a oe) → Zc (.ref (cm C)) d oe → oe.data = .fields vs → XdAt H d xs → RpF K cm H xs ds → Rp K cm H (.ref a) (.exc C ds)
  | raw (a : Addr) : Rp K cm H (.ref a) (.raw a)
  | ptr {a : Addr} {k : Nat} : H.ads[k]? = some a → Rp K cm H (.ref a) (.ptr k)
  | tux {a : Addr} {o : Obj} {xs : List V} {ds : List DD} : H a = some (.frz o (.tup xs)) → o.dict = none → RpA K cm H xs ds → Rp K cm H (.ref a) (.tux ds)
inductive RpA (K : PySem.W.Frag) (cm : CM) (H : GH) : List V → List DD → Prop
  | nil : RpA K cm H [] []
  | cons {v : V} {vs : List V} {d : DD} {ds : List DD} : Rp K cm H v d → RpA K cm H vs ds → RpA K cm H (v :: vs) (d :: ds)
inductive RpK (K : PySem.W.Frag) (cm : CM) (H : GH) : List (Key × V) → List (Key × DD) → Prop
  | nil : RpK K cm H [] []
  | cons {k : Key} {v : V} {vs : List (Key × V)} {d : DD} {ds : List (Key × DD)} : Rp K cm H v d → RpK K cm H vs ds → RpK K cm H ((k, v) :: vs) ((k, d) :: ds)
inductive RpF (K : PySem.W.Frag) (cm : CM) (H : GH) : List (Str × V) → List (Str × DD) → Prop
  | nil : RpF K cm H [] []
  | cons {k : Str} {v : V} {vs : List (Str × V)} {d : DD} {ds : List (Str × DD)} : Rp K cm H v d → RpF K cm H vs ds → RpF K cm H ((k, v) :: vs) ((k, d) :: ds)
end
theorem Same.tupq {K : PySem.W.Frag} {H H' : Hp} {a : Addr} {xs : List V} (e : Same H H') (h : SqT K H a xs) : SqT K H' a xs := by
  rcases h with (h | ⟨o, h⟩) | h
  · exact .inl (.inl (e _ _ h))
  · exact .inl (.inr ⟨o, e _ _ h⟩)
  · exact .inr h
section
variable {K : PySem.W.Frag} {cm : CM} {H H' : GH}
mutual
theorem Rp.mono (e : GS H H') : ∀ {v : V} {d : DD}, Rp K cm H v d → Rp K cm H' v d
  | _, _, .non => .non
  | _, _, .bl b => .bl b
  | _, _, .int i => .int i
  | _, _, .str x => .str x
  | _, _, .lst h r => .lst (e.s _ _ h) (RpA.mono e r)
  | _, _, .tup h r => .tup (e.s _ _ h) (RpA.mono e r)
  | _, _, .dic h r => .dic (e.s _ _ h) (RpK.mono e r)
  | _, _, .obj h r => .obj (e.s _ _ h) (RpF.mono e r)
  | _, _, .exc h z q h2 r => .exc (e.s _ _ h) z q (h2.mono e.s) (RpF.mono e r)
  | _, _, .raw a => .raw a
  | _, _, .ptr h => .ptr (prefix_get e.a h)
  | _, _, .tux h n r => .tux (e.s _ _ h) n (RpA.mono e r)
theorem RpA.mono (e : GS H H') : ∀ {v : List V} {d : List DD}, RpA K cm H v d → RpA K cm H' v d
  | _, _, .nil => .nil
  | _, _, .cons h r => .cons (Rp.mono e h) (RpA.mono e r)
theorem RpK.mono (e : GS H H') : ∀ {v : List (Key × V)} {d : List (Key × DD)}, RpK K cm H v d → RpK K cm H' v d
  | _, _, .nil => .nil
  | _, _, .cons h r => .cons (Rp.mono e h) (RpK.mono e r)
theorem RpF.mono (e : GS H H') : ∀ {v : List (Str × V)} {d : List (Str × DD)}, RpF K cm H v d → RpF K cm H' v d
  | _, _, .nil => .nil
  | _, _, .cons h r => .cons (Rp.mono e h) (RpF.mono e r)
end
theorem RpA.length : ∀ {v : List V} {d : List DD}, RpA K cm H v d → v.length = d.length
  | _, _, .nil => rfl
  | _, _, .cons _ r => congrArg Nat.succ (RpA.length r)
theorem RpA.append : ∀ {v v' : List V} {d d' : List DD}, RpA K cm H v d → RpA K cm H v' d' → RpA K cm H (v ++ v') (d ++ d')
  | _, _, _, _, .nil, s => s
  | _, _, _, _, .cons h r, s => .cons h (RpA.append r s)
theorem RpA.take : ∀ (n : Nat) {v : List V} {d : List DD}, RpA K cm H v d → RpA K cm H (v.take n) (d.take n)
  | 0, _, _, _ => .nil
  | _ + 1, _, _, .nil => .nil
  | n + 1, _, _, .cons h r => .cons h (RpA.take n r)
theorem RpA.drop : ∀ (n : Nat) {v : List V} {d : List DD}, RpA K cm H v d → RpA K cm H (v.drop n) (d.drop n)
  | 0, _, _, h => h
  | _ + 1, _, _, .nil => .nil
  | n + 1, _, _, .cons _ r => RpA.drop n r
theorem RpA.get : ∀ {n : Nat} {v : List V} {d : List DD} {x : DD}, RpA K cm H v d → d[n]? = some x → ∃ y, v[n]? = some y ∧ Rp K cm H y x
  | _, _, _, _, .nil, e => by simp at e
  | 0, _, _, _, .cons h _, e => by simp at e; subst e; exact ⟨_, rfl, h⟩
  | n + 1, _, _, _, .cons _ r, e => by
    obtain ⟨y, a, b⟩ := RpA.get (n := n) r (by simpa using e)
    exact ⟨y, by simpa using a, b⟩
theorem RpA.set {y : V} {x : DD} (h : Rp K cm H y x) : ∀ (n : Nat) {v : List V} {d : List DD}, RpA K cm H v d → RpA K cm H (v.set n y) (d.set n x)
  | _, _, _, .nil => .nil
  | 0, _, _, .cons _ r => .cons h r
  | n + 1, _, _, .cons a r => .cons a (RpA.set h n r)
theorem RpA.reverse : ∀ {v : List V} {d : List DD}, RpA K cm H v d → RpA K cm H v.reverse d.reverse
  | _, _, .nil => .nil
  | _, _, .cons h r => by
    rw [List.reverse_cons, List.reverse_cons]
    exact (RpA.reverse r).append (.cons h .nil)
theorem RpA.ints : ∀ ns : List Int, RpA K cm H (ns.map V.int) (ns.map DD.int)
  | [] => .nil
  | n :: ns => .cons (.int n) (RpA.ints ns)
theorem Rp.int_of {i : Int} {v : V} (h : Rp K cm H v (.int i)) : v = .int i := by cases h; rfl
theorem Rp.str_of {i : Str} {v : V} (h : Rp K cm H v (.str i)) : v = .str i := by cases h; rfl
theorem Rp.bl_of {i : Bool} {v : V} (h : Rp K cm H v (.bl i)) : v = .bl i := by cases h; rfl
theorem RpA.ints_of : ∀ {ns : List Int} {v : List V}, RpA K cm H v (ns.map DD.int) → v = ns.map V.int
  | [], _, .nil => rfl
  | n :: ns, _, .cons h r => by rw [h.int_of, RpA.ints_of r] <;> rfl
theorem RpA.strs_of : ∀ {ns : List Str} {v : List V}, RpA K cm H v (ns.map DD.str) → v = ns.map V.str
  | [], _, .nil => rfl
  | n :: ns, _, .cons h r => by rw [h.str_of, RpA.strs_of r] <;> rfl
theorem RpA.bls_of : ∀ {ns : List Bool} {v : List V}, RpA K cm H v (ns.map DD.bl) → v = ns.map V.bl
  | [], _, .nil => rfl
  | n :: ns, _, .cons h r => by rw [h.bl_of, RpA.bls_of r] <;> rfl
end
/-- a thing that may change: a list, a dict, an object; one that is gone -/
inductive Nd where
  | lst (xs : List DD) | dK (kvs : List (Key × DD)) | obj (C : Str) (fs : List (Str × DD)) | gone | fz (d : DD) | dT (kvs : List (List Key × DD))
structure Tau where
  cells : List Int
  at' : Int
  left : Int
  st : List Nd := []
abbrev TS' := Option Tau
structure Ex where
  cls : Str
  fs : List (Str × DD)
inductive R (α : Type) where
  | ok (a : α) (τ : TS') | ex (x : Ex) (τ : TS') | no
def R.bind {α β : Type} : R α → (α → TS' → R β) → R β
  | .ok a τ, f => f a τ
  | .ex x τ, _ => .ex x τ
  | .no, _ => .no
def R.of {α : Type} (τ : TS') : Option α → R α
  | some a => .ok a τ
  | none => .no
@[simp] theorem R.bind_ok {α β : Type} (a : α) (τ : TS') (f : α → TS' → R β) : (R.ok a τ).bind f = f a τ := id rfl
@[simp] theorem R.bind_ex {α β : Type} (a : Ex) (τ : TS') (f : α → TS' → R β) : (R.ex a τ).bind f = .ex a τ := id rfl
@[simp] theorem R.bind_no {α β : Type} (f : α → TS' → R β) : (R.no).bind f = .no := id rfl
@[simp] theorem R.of_some {α : Type} (τ : TS') (a : α) : R.of τ (some a) = .ok a τ := id rfl
@[simp] theorem R.of_none {α : Type} (τ : TS') : (R.of τ none : R α) = .no := id rfl
/-- what a node of an owned tree is -/
inductive Kd where
  | lst | dK (ks : List Key) | obj (C : Str) (ns : List Str)
/-- an owned tree: its leaves stay as they are -/
inductive OT where
  | fr (d : DD) | nd (k : Kd) (ts : List OT)
inductive OC where
  | lst (xs : List DD) | dK (kvs : List (Key × DD)) | tr (k : Kd) (ts : List OT)
inductive PV where
  | fr (d : DD) | ow (c : OC) | tape | scr (ns : List Int) | fn (x : Str) | thk
abbrev PEnv := List (Option PV)
/-- what is fixed: the constants, the classes, how a tape lies -/
structure Wp where
  K : PySem.W.Frag
  cm : CM
  tk : Tau → Addr → HO
  T : List (Addr × Str) := []
  th : Option (Addr × Addr × Str × GH) := none
abbrev Wp.rp (W : Wp) := Rp W.K W.cm
def NodeAt (W : Wp) (H : Hp) (a : Addr) (vs : List V) : Kd → Prop
  | .lst => H a = some (.lst vs)
  | .dK ks => ks.length = vs.length ∧ H a = some (.dK (ks.zip vs))
  | .obj C ns => ns.length = vs.length ∧ ∃ dx, H a = some (.ins (W.cm C) dx (ns.zip vs))
mutual
/-- a value stands for an owned tree; F: the addresses of its nodes -/
inductive Ow (W : Wp) (G : GH) (H : Hp) : V → OT → List Addr → Prop
  | fr {v : V} {d : DD} : Rp W.K W.cm G v d → Ow W G H v (.fr d) []
  | nd {a : Addr} {k : Kd} {vs : List V} {ts : List OT} {F : List Addr} : NodeAt W H a vs k → OwA W G H vs ts F → a ∉ F → Ow W G H (.ref a) (.nd k ts) (a :: F)
inductive OwA (W : Wp) (G : GH) (H : Hp) : List V → List OT → List Addr → Prop
  | nil : OwA W G H [] [] []
  | cons {v : V} {t : OT} {vs : List V} {ts : List OT} {F F' : List Addr} : Ow W G H v t F → OwA W G H vs ts F' → (∀ p ∈ F, p ∉ F') → OwA W G H (v :: vs) (t :: ts) (F ++ F')
end
def OwR (W : Wp) (G : GH) (H : Hp) (a : Addr) : OC → List Addr → Prop
  | .lst xs, F => F = [a] ∧ ∃ vs, H a = some (.lst vs) ∧ RpA W.K W.cm G vs xs
  | .dK kvs, F => F = [a] ∧ ∃ vs, H a = some (.dK vs) ∧ RpK W.K W.cm G vs kvs
  | .tr k ts, F => Ow W G H (.ref a) (.nd k ts) F
section
variable {W : Wp} {G G' : GH} {H H' : Hp}
theorem NodeAt.keep {a : Addr} {vs : List V} {k : Kd} (h : NodeAt W H a vs k) (e : ∀ o, H a = some o → H' a = some o) : NodeAt W H' a vs k := by
  cases k with
  | lst => exact e _ h
  | dK ks => exact ⟨h.1, e _ h.2⟩
  | obj C ns => obtain ⟨l, dx, h⟩ := h; exact ⟨l, dx, e _ h⟩
theorem NodeAt.at {a : Addr} {vs : List V} {k : Kd} (h : NodeAt W H a vs k) : H a ≠ none := by
  cases k with
  | lst => rw [show H a = _ from h]; simp
  | dK ks => rw [h.2]; simp
  | obj C ns => obtain ⟨l, dx, h⟩ := h; rw [h]; simp
theorem zip_inj {α β : Type} : ∀ {ks : List α} {vs us : List β}, ks.length = vs.length → ks.length = us.length → ks.zip vs = ks.zip us → vs = us
  | [], [], [], _, _, _ => rfl
  | k :: ks, v :: vs, u :: us, h1, h2, e => by
    simp only [List.zip_cons_cons, List.cons.injEq, Prod.mk.injEq, true_and] at e
    rw [e.1, zip_inj (Nat.succ.inj h1) (Nat.succ.inj h2) e.2]
theorem NodeAt.uniq {a : Addr} {vs us : List V} {k : Kd} (h : NodeAt W H a vs k) (h' : NodeAt W H a us k) : vs = us := by
  cases k with
  | lst => have h : H a = _ := h; have h' : H a = _ := h'; rw [h] at h'; cases h'; rfl
  | dK ks =>
    have e := h.2.symm.trans h'.2
    simp only [Option.some.injEq, HO.dK.injEq] at e
    exact zip_inj h.1 h'.1 e
  | obj C ns =>
    obtain ⟨l, dx, h⟩ := h
    obtain ⟨l', dx', h'⟩ := h'
    have e := h.symm.trans h'
    simp only [Option.some.injEq, HO.ins.injEq] at e
    exact zip_inj l l' e.2.2
mutual
theorem Ow.keep : ∀ {v : V} {t : OT} {F : List Addr}, Ow W G H v t F → GS G G' → (∀ p ∈ F, ∀ o, H p = some o → H' p = some o) → Ow W G' H' v t F
  | _, _, _, .fr r, g, _ => .fr (Rp.mono g r)
  | _, _, _, .nd h r n, g, e => .nd (h.keep (e _ List.mem_cons_self)) (OwA.keep r g fun p hp => e p (List.mem_cons_of_mem _ hp)) n
theorem OwA.keep : ∀ {v : List V} {t : List OT} {F : List Addr}, OwA W G H v t F → GS G G' → (∀ p ∈ F, ∀ o, H p = some o → H' p = some o) → OwA W G' H' v t F
  | _, _, _, .nil, _, _ => .nil
  | _, _, _, .cons h r n, g, e => .cons (Ow.keep h g fun p hp => e p (List.mem_append_left _ hp)) (OwA.keep r g fun p hp => e p (List.mem_append_right _ hp)) n
end
mutual
theorem Ow.at : ∀ {v : V} {t : OT} {F : List Addr}, Ow W G H v t F → ∀ p ∈ F, H p ≠ none
  | _, _, _, .fr r, p, hp => by cases hp
  | _, _, _, .nd h r n, p, hp => by
    rcases List.mem_cons.mp hp with rfl | hp
    · exact h.at
    · exact OwA.at r p hp
theorem OwA.at : ∀ {v : List V} {t : List OT} {F : List Addr}, OwA W G H v t F → ∀ p ∈ F, H p ≠ none
  | _, _, _, .nil, p, hp => by cases hp
  | _, _, _, .cons h r n, p, hp => by
    rcases List.mem_append.mp hp with hp | hp
    · exact Ow.at h p hp
    · exact OwA.at r p hp
end
mutual
theorem Ow.uniq : ∀ {v : V} {t : OT} {F F' : List Addr}, Ow W G H v t F → Ow W G' H v t F' → F = F'
  | _, _, _, _, .fr _, .fr _ => rfl
  | _, _, _, _, .nd h r _, .nd h' r' _ => by
    cases h.uniq h'
    rw [OwA.uniq r r']
theorem OwA.uniq : ∀ {v : List V} {t : List OT} {F F' : List Addr}, OwA W G H v t F → OwA W G' H v t F' → F = F'
  | _, _, _, _, .nil, .nil => rfl
  | _, _, _, _, .cons h r _, .cons h' r' _ => by rw [Ow.uniq h h', OwA.uniq r r']
end
theorem OwR.keep {a : Addr} {c : OC} {F : List Addr} (h : OwR W G H a c F) (g : GS G G') (k : ∀ p ∈ F, ∀ o, H p = some o → H' p = some o) : OwR W G' H' a c F := by
  cases c with
  | lst xs => obtain ⟨rfl, vs, e, r⟩ := h; exact ⟨rfl, vs, k a (by simp) _ e, r.mono g⟩
  | dK xs => obtain ⟨rfl, vs, e, r⟩ := h; exact ⟨rfl, vs, k a (by simp) _ e, r.mono g⟩
  | tr q ts => exact Ow.keep (show Ow W G H _ _ _ from h) g k
theorem OwR.at {a : Addr} {c : OC} {F : List Addr} (h : OwR W G H a c F) : ∀ p ∈ F, H p ≠ none := by
  cases c with
  | lst xs => obtain ⟨rfl, vs, e, r⟩ := h; intro p hp; rw [List.mem_singleton.mp hp, e]; simp
  | dK xs => obtain ⟨rfl, vs, e, r⟩ := h; intro p hp; rw [List.mem_singleton.mp hp, e]; simp
  | tr q ts => exact Ow.at (show Ow W G H _ _ _ from h)
theorem OwR.mem {a : Addr} {c : OC} {F : List Addr} (h : OwR W G H a c F) : a ∈ F := by
  cases c with
  | lst xs => obtain ⟨rfl, _⟩ := h; simp
  | dK xs => obtain ⟨rfl, _⟩ := h; simp
  | tr q ts => cases (show Ow W G H _ _ _ from h) with | nd _ _ _ => exact List.mem_cons_self
theorem OwR.uniq {a : Addr} {c : OC} {F F' : List Addr} (h : OwR W G H a c F) (h' : OwR W G' H a c F') : F = F' := by
  cases c with
  | lst xs => rw [h.1, h'.1]
  | dK xs => rw [h.1, h'.1]
  | tr q ts => exact Ow.uniq (show Ow W G H _ _ _ from h) (show Ow W G' H _ _ _ from h')
end
/-- neither a table nor told by what is true of it -/
def _root_.PySem.L2.HO.nt : HO → Bool
  | .tbl _ => false
  | .ext _ => false
  | .tup _ => false
  | _ => true
def _root_.PySem.L2.HO.tb : HO → Bool
  | .tbl _ => true
  | _ => false
theorem nt_tb {o : HO} (h : o.nt = true) : o.tb = false := by cases o <;> first | rfl | cases h
def NT (H : Hp) (p : Addr) : Prop := ∃ o, H p = some o ∧ o.nt = true
theorem NT.ne {H : Hp} {p : Addr} (h : NT H p) : H p ≠ none := by
  obtain ⟨o, h, _⟩ := h
  rw [h]
  simp
theorem NodeAt.nt {W : Wp} {H : Hp} {a : Addr} {vs : List V} {k : Kd} (h : NodeAt W H a vs k) : NT H a := by
  cases k with
  | lst => exact ⟨_, h, rfl⟩
  | dK ks => exact ⟨_, h.2, rfl⟩
  | obj C ns => obtain ⟨l, dx, h⟩ := h; exact ⟨_, h, rfl⟩
mutual
theorem Ow.nt {W : Wp} {G : GH} {H : Hp} : ∀ {v : V} {t : OT} {F : List Addr}, Ow W G H v t F → ∀ p ∈ F, NT H p
  | _, _, _, .fr r, p, hp => by cases hp
  | _, _, _, .nd h r n, p, hp => by
    rcases List.mem_cons.mp hp with rfl | hp
    · exact h.nt
    · exact OwA.nt r p hp
theorem OwA.nt {W : Wp} {G : GH} {H : Hp} : ∀ {v : List V} {t : List OT} {F : List Addr}, OwA W G H v t F → ∀ p ∈ F, NT H p
  | _, _, _, .nil, p, hp => by cases hp
  | _, _, _, .cons h r n, p, hp => by
    rcases List.mem_append.mp hp with hp | hp
    · exact Ow.nt h p hp
    · exact OwA.nt r p hp
end
theorem OwR.nt {W : Wp} {G : GH} {H : Hp} {a : Addr} {c : OC} {F : List Addr} (h : OwR W G H a c F) : ∀ p ∈ F, NT H p := by
  cases c with
  | lst xs => obtain ⟨rfl, vs, e, r⟩ := h; intro p hp; rw [List.mem_singleton.mp hp]; exact ⟨_, e, rfl⟩
  | dK xs => obtain ⟨rfl, vs, e, r⟩ := h; intro p hp; rw [List.mem_singleton.mp hp]; exact ⟨_, e, rfl⟩
  | tr q ts => exact Ow.nt (show Ow W G H _ _ _ from h)
/-- what stays stands in the heap; the tables of code objects stand in no such part -/
structure SB (W : Wp) (G : GH) (H : Hp) : Prop where
  s : Same G.hp H
  t : LamX.Tabs W.T H
  n : ∀ p ∈ W.T, G.hp p.1 = none
instance {W : Wp} {G : GH} {H : Hp} : CoeFun (SB W G H) (fun _ => ∀ b o, G.hp b = some o → H b = some o) := ⟨fun h => h.s⟩
theorem SB.trans {W : Wp} {G : GH} {H H' : Hp} (g : SB W G H) (e : Same H H') : SB W G H' := ⟨g.s.trans e, g.t.ext e, g.n⟩
theorem SB.free {W : Wp} {G : GH} {H : Hp} (g : SB W G H) {l : Addr} (h : H l = none) : G.hp l = none := g.s.free h
theorem SB.seq {W : Wp} {G : GH} {H : Hp} {K : PySem.W.Frag} {a : Addr} {xs : List V} (g : SB W G H) (h : SqL K G.hp a xs) : SqL K H a xs := g.s.seq h
abbrev GH.on (G : GH) (H : Hp) : GH := ⟨H, G.ads⟩
theorem SB.gs {W : Wp} {G : GH} {H : Hp} (g : SB W G H) : GS G (G.on H) := ⟨g.s, List.prefix_rfl⟩
theorem GS.sb {W : Wp} {G G' : GH} {H : Hp} (e : GS G G') (g : SB W G' H) : SB W G H := ⟨e.s.trans g.s, g.t, fun p hp => e.free (g.n p hp)⟩
theorem SB.ntab {W : Wp} {G : GH} {H : Hp} (g : SB W G H) {p : Addr} (h : H p = none) : ∀ q ∈ W.T, q.1 ≠ p := fun q hq z => by
  obtain ⟨ps, e, _⟩ := g.t q hq
  rw [z, h] at e
  cases e
theorem SB.both {W : Wp} {G : GH} {H : Hp} {p : Addr} {o : HO} (g : SB W G H) (n : H p = none) : SB W (G.upd p o) (upd H p o) :=
  ⟨same_both g.s, g.t.ext (same_new n), fun q hq => by show upd G.hp p o q.1 = none; rw [upd_ne (g.ntab n q hq)]; exact g.n q hq⟩
theorem tabs_put {T : List (Addr × Str)} {H : Hp} {p : Addr} {o : HO} (t : LamX.Tabs T H) (nt : NT H p) : LamX.Tabs T (upd H p o) := fun q hq => by
  obtain ⟨u, hu, hn⟩ := nt
  obtain ⟨ps, h1, h2, h3⟩ := t q hq
  refine ⟨ps, by rw [upd_ne (fun z => by rw [z, hu] at h1; cases h1; cases hn)]; exact h1, h2, fun pos cv hc => ?_⟩
  obtain ⟨c, e, h⟩ := h3 pos cv hc
  exact ⟨c, e, by rw [upd_ne (fun z => by rw [z, hu] at h; unfold LamX.CodeO at h; cases h; cases hn)]; exact h⟩
/-- tables where what is no plain thing stays -/
theorem tabs_keep {T : List (Addr × Str)} {H H' : Hp} (t : LamX.Tabs T H) (h : ∀ p o, o.nt = false → H p = some o → H' p = some o) : LamX.Tabs T H' := fun q hq => by
  obtain ⟨ps, h1, h2, h3⟩ := t q hq
  refine ⟨ps, h _ _ rfl h1, h2, fun pos cv hc => ?_⟩
  obtain ⟨c, e, hh⟩ := h3 pos cv hc
  exact ⟨c, e, h _ _ rfl hh⟩
/-- a cell that is no table changes -/
theorem SB.put {W : Wp} {G : GH} {H : Hp} {p : Addr} {o : HO} (g : SB W G H) (n : G.hp p = none) (nt : NT H p) : SB W G (upd H p o) := ⟨same_mut g.s n, tabs_put g.t nt, g.n⟩
/-- p is none of the cells that may change -/
def NoM (tp : Option Addr) (G : GH) (p : Addr) : Prop := ∀ a, tp = some a → p ≠ a ∧ p ∉ G.ads
theorem NoM.none {G : GH} {p : Addr} : NoM none G p := fun a h => by cases h
theorem NoM.nt {tp : Option Addr} {G : GH} {p : Addr} (h : NoM tp G p) : tp ≠ some p := fun z => (h p z).1 rfl
/-- a dict's items, keys that are flat tuples -/
abbrev RpT (K : PySem.W.Frag) (cm : CM) (G : GH) : List (List Key × V) → List (List Key × DD) → Prop := Paired fun p q => p.1 = q.1 ∧ Rp K cm G p.2 q.2
theorem RpT.mono {K : PySem.W.Frag} {cm : CM} {G G' : GH} {vs : List (List Key × V)} {ds : List (List Key × DD)} (h : RpT K cm G vs ds) (e : GS G G') : RpT K cm G' vs ds := Paired.mapP h fun _ _ q => ⟨q.1, q.2.mono e⟩
def NdR (W : Wp) (G : GH) (H : Hp) (a : Addr) : Nd → Prop
  | .dT kvs => ∃ vs, H a = some (.dT vs) ∧ RpT W.K W.cm G vs kvs
  | .lst xs => ∃ vs, H a = some (.lst vs) ∧ RpA W.K W.cm G vs xs
  | .dK kvs => ∃ vs, H a = some (.dK vs) ∧ RpK W.K W.cm G vs kvs
  | .obj C fs => ∃ dx vs, H a = some (.ins (W.cm C) dx vs) ∧ RpF W.K W.cm G vs fs
  | .gone => NT H a
  | .fz d => NT H a ∧ Rp W.K W.cm G (.ref a) d
def Nd.isFz : Nd → Bool
  | .fz _ => true
  | _ => false
theorem NdR.nt {W : Wp} {G : GH} {H : Hp} {a : Addr} {nd : Nd} (h : NdR W G H a nd) : NT H a := by
  cases nd with
  | lst xs => obtain ⟨_, h, _⟩ := h; exact ⟨_, h, rfl⟩
  | dK xs => obtain ⟨_, h, _⟩ := h; exact ⟨_, h, rfl⟩
  | obj C fs => obtain ⟨_, _, h, _⟩ := h; exact ⟨_, h, rfl⟩
  | gone => exact h
  | fz d => exact h.1
  | dT xs => obtain ⟨_, h, _⟩ := h; exact ⟨_, h, rfl⟩
theorem NdR.keep {W : Wp} {G G' : GH} {H H' : Hp} {a : Addr} {nd : Nd} (h : NdR W G H a nd) (e : GS G G') (k : ∀ o, H a = some o → H' a = some o) : NdR W G' H' a nd := by
  cases nd with
  | lst xs => obtain ⟨vs, h, r⟩ := h; exact ⟨vs, k _ h, r.mono e⟩
  | dK xs => obtain ⟨vs, h, r⟩ := h; exact ⟨vs, k _ h, r.mono e⟩
  | obj C fs => obtain ⟨dx, vs, h, r⟩ := h; exact ⟨dx, vs, k _ h, r.mono e⟩
  | gone => obtain ⟨o, h, n⟩ := h; exact ⟨o, k _ h, n⟩
  | fz d => obtain ⟨⟨o, h, n⟩, r⟩ := h; exact ⟨⟨o, k _ h, n⟩, r.mono e⟩
  | dT xs => obtain ⟨vs, h, r⟩ := h; exact ⟨vs, k _ h, r.mono e⟩
/-- the things that may change -/
structure StR (W : Wp) (G : GH) (H : Hp) (tp : Addr) (st : List Nd) : Prop where
  l : st.length = G.ads.length
  d : G.ads.Nodup
  t : tp ∉ G.ads
  g : ∀ (k : Nat) (nd : Nd) (a : Addr), st[k]? = some nd → G.ads[k]? = some a → nd.isFz = false → G.hp a = none
  n : ∀ (k : Nat) (nd : Nd) (a : Addr), st[k]? = some nd → G.ads[k]? = some a → NdR W G H a nd
theorem StR.nt {W : Wp} {G : GH} {H : Hp} {tp : Addr} {st : List Nd} (h : StR W G H tp st) : ∀ a ∈ G.ads, NT H a := fun a ha => by
  obtain ⟨k, hk, e⟩ := List.mem_iff_getElem.mp ha
  have hl : k < st.length := by rw [h.l]; exact hk
  exact (h.n k st[k] a (List.getElem?_eq_getElem hl) (by rw [List.getElem?_eq_getElem hk, e])).nt
theorem StR.keep {W : Wp} {G G' : GH} {H H' : Hp} {tp : Addr} {st : List Nd} (h : StR W G H tp st) (e : GS G G') (za : G'.ads = G.ads) (g : ∀ a ∈ G.ads, G.hp a = none → G'.hp a = none) (k : ∀ a ∈ G.ads, ∀ o, H a = some o → H' a = some o) : StR W G' H' tp st :=
  ⟨by rw [za]; exact h.l, by rw [za]; exact h.d, by rw [za]; exact h.t, fun i nd a h1 h2 h3 => by rw [za] at h2; exact g a (List.mem_of_getElem? h2) (h.g i nd a h1 h2 h3), fun i nd a h1 h2 => (h.n i nd a h1 (by rw [za] at h2; exact h2)).keep e (k a (by rw [za] at h2; exact List.mem_of_getElem? h2))⟩
structure TapeR (W : Wp) (G : GH) (H : Hp) (tp : Addr) (τ : Tau) : Prop where
  g : G.hp tp = none
  c : ∃ c, G.hp c = some (.lst (τ.cells.map V.int)) ∧ H tp = some (W.tk τ c)
  n : NT H tp
  s : StR W G H tp τ.st
def TapeO (W : Wp) (G : GH) (H : Hp) : Option Addr → TS' → Prop
  | none, none => True
  | some a, some τ => TapeR W G H a τ
  | _, _ => False
/-- the lambda that a def got: what stood when it was made stands -/
def ThkR (W : Wp) (tp : Option Addr) (G : GH) (H : Hp) (v : V) : Prop := ∃ f c q g, W.th = some (f, c, q, g) ∧ v = .ref f ∧ GS g G ∧ NoM tp G c ∧ H c = some (LamX.CodeO c q)
theorem code_ne {H : Hp} {c p : Addr} {q : Str} (h : H c = some (LamX.CodeO c q)) (n : NT H p) : c ≠ p := fun z => by
  obtain ⟨u, hu, hn⟩ := n
  rw [← z, h] at hu
  cases hu
  cases hn
def SlotR (W : Wp) (tp : Option Addr) (G : GH) (H : Hp) : Option V → Option PV → Prop
  | _, none => True
  | some v, some (.fr d) => Rp W.K W.cm G v d
  | some v, some (.ow c) => ∃ a F, v = .ref a ∧ OwR W G H a c F ∧ ∀ p ∈ F, G.hp p = none ∧ NoM tp G p
  | some v, some .tape => ∃ a, tp = some a ∧ v = .ref a
  | some v, some (.scr ns) => ∃ a, v = .ref a ∧ SqL W.K G.hp a (ns.map V.int)
  | some v, some (.fn x) => v = .ref (W.cm x)
  | some v, some .thk => ThkR W tp G H v
  | _, _ => False
structure EnvV (W : Wp) (tp : Option Addr) (G : GH) (H : Hp) (σ : L2.St) (ρ : PEnv) (τ : TS') : Prop where
  g : SB W G H
  s : Paired (SlotR W tp G H) σ ρ
  d : ∀ (i j : Nat) (a b : Addr) (c c' : OC) (F F' : List Addr), ρ[i]? = some (some (PV.ow c)) → ρ[j]? = some (some (PV.ow c')) → σ[i]? = some (some (V.ref a)) → σ[j]? = some (some (V.ref b)) → OwR W G H a c F → OwR W G H b c' F' → ∀ p, p ∈ F → p ∈ F' → i = j
  t : TapeO W G H tp τ
structure Ext (tp : Option Addr) (G : GH) (H : Hp) (G' : GH) (H' : Hp) : Prop where
  g : GS G G'
  h : ∀ p o, NoM tp G p → o.tb = false → H p = some o → H' p = some o
  f : ∀ p, NoM tp G p → NT H p → G.hp p = none → G'.hp p = none
  x : ∀ p, H p ≠ none → H' p ≠ none
  w : ∀ p ∈ G'.ads, p ∈ G.ads ∨ H p = none
  z : tp = none → G'.ads = G.ads
theorem Ext.nom {tp : Option Addr} {G G' : GH} {H H' : Hp} (e : Ext tp G H G' H') {p : Addr} (h : NoM tp G p) (n : H p ≠ none) : NoM tp G' p := fun a ha => ⟨(h a ha).1, fun z => (e.w p z).elim (h a ha).2 n⟩
theorem Paired.getL {α β : Type} {F : α → β → Prop} : ∀ {xs : List α} {ys : List β} {i : Nat} {y : β}, Paired F xs ys → ys[i]? = some y → ∃ x, xs[i]? = some x ∧ F x y
  | _, _, _, _, .nil, e => by simp at e
  | _, _, 0, _, .cons h _, e => by simp at e; subst e; exact ⟨_, rfl, h⟩
  | _, _, i + 1, _, .cons _ r, e => by
    obtain ⟨u, h1, h2⟩ := Paired.getL (i := i) r (by simpa using e)
    exact ⟨u, by simpa using h1, h2⟩
theorem Paired.setL {α β : Type} {F : α → β → Prop} {x : α} {y : β} (h : F x y) : ∀ {xs : List α} {ys : List β} (i : Nat), Paired F xs ys → Paired F (xs.set i x) (ys.set i y)
  | _, _, _, .nil => .nil
  | _, _, 0, .cons _ t => .cons h t
  | _, _, i + 1, .cons q t => .cons q (Paired.setL h i t)
/-- each pair may use where it stands -/
theorem Paired.mapI {α β : Type} {F F' : α → β → Prop} : ∀ {xs : List α} {ys : List β}, Paired F xs ys → (∀ (i : Nat) x y, xs[i]? = some x → ys[i]? = some y → F x y → F' x y) → Paired F' xs ys
  | _, _, .nil, _ => .nil
  | _, _, .cons h t, k => .cons (k 0 _ _ rfl rfl h) (Paired.mapI t fun i x y a b c => k (i + 1) x y (by simpa using a) (by simpa using b) c)
section
variable {W : Wp} {tp : Option Addr} {G G' G2 : GH} {H H' H2 : Hp} {σ : L2.St} {ρ : PEnv} {τ τ' : TS'} {o : HO}
theorem Ext.refl : Ext tp G H G H := ⟨GS.refl _, fun _ _ _ _ h => h, fun _ _ _ h => h, fun _ h => h, fun _ h => .inl h, fun _ => rfl⟩
theorem Ext.trans (e : Ext tp G H G' H') (e' : Ext tp G' H' G2 H2) : Ext tp G H G2 H2 := by
  refine ⟨e.g.trans e'.g, fun p o n t h => e'.h p o (e.nom n (by rw [h]; simp)) t (e.h p o n t h), fun p n hp hg => e'.f p (e.nom n hp.ne) (hp.imp fun o z => ⟨e.h p o n (nt_tb z.2) z.1, z.2⟩) (e.f p n hp hg), fun p h => e'.x p (e.x p h), fun p hp => ?_, fun h => (e'.z h).trans (e.z h)⟩
  rcases e'.w p hp with h | h
  · exact e.w p h
  · exact .inr (by
      cases z : H p with
      | none => rfl
      | some o => exact (e.x p (by rw [z]; simp) h).elim)
theorem Ext.weak (e : Ext none G H G' H') : Ext tp G H G' H' := ⟨e.g, fun p o _ => e.h p o NoM.none, fun p _ => e.f p NoM.none, e.x, e.w, fun _ => e.z rfl⟩
/-- all stays -/
theorem Ext.ofS (g : GS G G') (h : Same H H') (f : ∀ p, H p ≠ none → G.hp p = none → G'.hp p = none) (za : G'.ads = G.ads) : Ext tp G H G' H' :=
  ⟨g, fun p o _ _ => h p o, fun p _ h => f p h.ne, fun p hp => by
    cases z : H p with
    | none => exact (hp z).elim
    | some o => rw [h p o z]; simp, fun p hp => .inl (by rw [← za]; exact hp), fun _ => za⟩
theorem Ext.new {p : Addr} (n : H p = none) (g : SB W G H) : Ext tp G H (G.upd p o) (upd H p o) :=
  Ext.ofS (GS.new (g.free n)) (same_new n) (fun q h hg => by
    show upd G.hp p o q = none
    rw [upd_ne (fun z => h (by rw [z]; exact n))]; exact hg) rfl
theorem Ext.newH {p : Addr} (n : H p = none) : Ext tp G H G (upd H p o) := Ext.ofS (GS.refl _) (same_new n) (fun q _ hg => hg) rfl
theorem OwR.some {a : Addr} {c : OC} {F : List Addr} (w : OwR W G H a c F) {p : Addr} (hp : p ∈ F) : H p ≠ none := w.at p hp
/-- an owned thing is kept -/
theorem OwR.ext {a : Addr} {c : OC} {F : List Addr} (w : OwR W G H a c F) (gn : ∀ p ∈ F, G.hp p = none ∧ NoM tp G p) (e : Ext tp G H G' H') : OwR W G' H' a c F :=
  w.keep e.g fun p hp o h => by
    obtain ⟨u, hu, hn⟩ := w.nt p hp
    rw [h] at hu
    cases hu
    exact e.h p o (gn p hp).2 (nt_tb hn) h
theorem SlotR.ext {v : Option V} {p : Option PV} (h : SlotR W tp G H v p) (e : Ext tp G H G' H') : SlotR W tp G' H' v p := by
  match v, p, h with
  | _, none, _ => trivial
  | some v, some (.fr d), h => exact Rp.mono e.g h
  | some v, some (.ow c), ⟨a, F, r, w, gn⟩ => exact ⟨a, F, r, w.ext gn e, fun p hp => ⟨e.f p (gn p hp).2 (w.nt p hp) (gn p hp).1, e.nom (gn p hp).2 (w.at p hp)⟩⟩
  | some v, some .tape, h => exact h
  | some v, some (.scr ns), ⟨a, r, q⟩ => exact ⟨a, r, e.g.seq q⟩
  | some v, some (.fn x), h => exact h
  | some v, some .thk, ⟨f, c, q, g, a, b, s, n, h⟩ => exact ⟨f, c, q, g, a, b, s.trans e.g, e.nom n (by rw [h]; simp), e.h c _ n rfl h⟩
/-- the owned thing of a slot -/
theorem EnvV.own {i : Nat} {a : Addr} {c : OC} (E : EnvV W tp G H σ ρ τ) (hi : ρ[i]? = some (some (PV.ow c))) (ha : σ[i]? = some (some (V.ref a))) : ∃ F, OwR W G H a c F ∧ ∀ p ∈ F, G.hp p = none ∧ NoM tp G p := by
  obtain ⟨v, h1, h2⟩ := Paired.getL E.s hi
  rw [ha] at h1
  cases h1
  obtain ⟨b, F, r, w, gn⟩ := h2
  cases r
  exact ⟨F, w, gn⟩
theorem EnvV.ownS {i : Nat} {c : OC} (E : EnvV W tp G H σ ρ τ) (hi : ρ[i]? = some (some (PV.ow c))) : ∃ a F, σ[i]? = some (some (V.ref a)) ∧ OwR W G H a c F ∧ ∀ p ∈ F, G.hp p = none ∧ NoM tp G p := by
  obtain ⟨v, h1, h2⟩ := Paired.getL E.s hi
  cases v with
  | none => exact h2.elim
  | some v =>
    obtain ⟨b, F, rfl, w, gn⟩ := h2
    exact ⟨b, F, h1, w, gn⟩
/-- what is owned later with F was owned with F -/
theorem EnvV.back {i : Nat} {a : Addr} {c : OC} {F : List Addr} (E : EnvV W tp G H σ ρ τ) (g : GS G G') (k : ∀ p o, (∀ F0, OwR W G H a c F0 → p ∈ F0) → H p = some o → H' p = some o) (hi : ρ[i]? = some (some (PV.ow c))) (ha : σ[i]? = some (some (V.ref a))) (w : OwR W G' H' a c F) : OwR W G H a c F := by
  obtain ⟨F0, w0, gn⟩ := E.own hi ha
  have w1 : OwR W G' H' a c F0 := w0.keep g fun p hp o => k p o fun F1 w1 => by rw [w1.uniq w0]; exact hp
  rw [w.uniq w1]
  exact w0
theorem EnvV.backE {i : Nat} {a : Addr} {c : OC} {F : List Addr} (E : EnvV W tp G H σ ρ τ) (e : Ext tp G H G' H') (hi : ρ[i]? = some (some (PV.ow c))) (ha : σ[i]? = some (some (V.ref a))) (w : OwR W G' H' a c F) : OwR W G H a c F := by
  obtain ⟨F0, w0, gn⟩ := E.own hi ha
  rw [w.uniq (w0.ext gn e)]
  exact w0
theorem EnvV.ext (E : EnvV W tp G H σ ρ τ) (e : Ext tp G H G' H') (g : SB W G' H') (t : TapeO W G' H' tp τ') : EnvV W tp G' H' σ ρ τ' :=
  ⟨g, Paired.mapI E.s fun _ _ _ _ _ h => h.ext e, fun i j a b c c' F F' h1 h2 h3 h4 w w' => E.d i j a b c c' F F' h1 h2 h3 h4 (E.backE e h1 h3 w) (E.backE e h2 h4 w'), t⟩
theorem Ext.kn (e : Ext none G H G' H') {p : Addr} (n : NT H p) : ∀ o, H p = some o → H' p = some o := fun o h => by
  obtain ⟨u, hu, hn⟩ := n
  rw [h] at hu
  cases hu
  exact e.h p o NoM.none (nt_tb hn) h
theorem TapeR.ext {a : Addr} {τ : Tau} (t : TapeR W G H a τ) (e : Ext none G H G' H') : TapeR W G' H' a τ := by
  obtain ⟨g, ⟨c, s, h⟩, n, st⟩ := t
  refine ⟨e.f a NoM.none n g, ⟨c, e.g.s _ _ s, e.kn n _ h⟩, ?_, st.keep e.g (e.z rfl) (fun b hb z => e.f b NoM.none (st.nt b hb) z) fun b hb => e.kn (st.nt b hb)⟩
  obtain ⟨o, z, q⟩ := n
  exact ⟨o, e.kn ⟨o, z, q⟩ o z, q⟩
theorem TapeO.ext (t : TapeO W G H tp τ) (e : Ext none G H G' H') : TapeO W G' H' tp τ := by
  match tp, τ, t with
  | none, none, _ => trivial
  | some a, some τ, t => exact TapeR.ext t e
theorem TapeR.put {a p : Addr} {τ : Tau} (t : TapeR W G H a τ) (n : p ≠ a ∧ p ∉ G.ads) : TapeR W G (upd H p o) a τ := by
  obtain ⟨g, ⟨c, s, h⟩, ⟨u, hu, hn⟩, st⟩ := t
  exact ⟨g, ⟨c, s, by rw [upd_ne (fun z => n.1 z.symm)]; exact h⟩, ⟨u, by rw [upd_ne (fun z => n.1 z.symm)]; exact hu, hn⟩, st.keep (GS.refl _) rfl (fun _ _ z => z) fun b hb u h => by rw [upd_ne (fun z => n.2 (by rw [← z]; exact hb))]; exact h⟩
theorem TapeO.put {p : Addr} (t : TapeO W G H tp τ) (n : NoM tp G p) : TapeO W G (upd H p o) tp τ := by
  match tp, τ, t, n with
  | none, none, _, _ => trivial
  | some a, some τ, t, n => exact TapeR.put t (n a rfl)
theorem GS.frz {F : GH} (e : Same G.hp F.hp) (za : F.ads = G.ads) : GS G F := ⟨e, by rw [za]; exact List.prefix_rfl⟩
theorem SB.frz {p : Addr} (g : SB W G H) (h : H p = some o) (t : o.tb = false) : SB W (G.upd p o) H := by
  refine ⟨fun q u hq => ?_, g.t, fun q hq => ?_⟩
  · have hq : upd G.hp p o q = some u := hq
    by_cases z : q = p
    · rw [z, upd_same] at hq
      rw [z, h, hq]
    · rw [upd_ne z] at hq
      exact g.s q u hq
  · obtain ⟨ps, e, _⟩ := g.t q hq
    show upd G.hp p o q.1 = none
    rw [upd_ne (fun z => by rw [z, h] at e; cases e; cases t)]
    exact g.n q hq
/-- some of what may not change stays from now on -/
theorem TapeO.frz {F : GH} (t : TapeO W G H tp τ) (e : Same G.hp F.hp) (za : F.ads = G.ads) (n : ∀ p, G.hp p = none → (∀ a, tp = some a → p = a ∨ p ∈ G.ads) → F.hp p = none ∨ tp = none) : TapeO W F H tp τ := by
  match tp, τ, t, n with
  | none, none, _, _ => trivial
  | some a, some τ, t, n =>
    obtain ⟨g, ⟨c, s, h⟩, u, st⟩ := t
    have n1 : ∀ p, G.hp p = none → (p = a ∨ p ∈ G.ads) → F.hp p = none := fun p h1 h2 => (n p h1 fun b hb => by cases hb; exact h2).elim id fun z => by cases z
    exact ⟨n1 a g (.inl rfl), ⟨c, e _ _ s, h⟩, u, st.keep (GS.frz e za) za (fun b hb z => n1 b z (.inr hb)) fun b hb u h => h⟩
theorem TapeO.frz1 {p : Addr} (t : TapeO W G H tp τ) (g : G.hp p = none) (n : NoM tp G p) : TapeO W (G.upd p o) H tp τ :=
  t.frz (same_new g) rfl fun q hq hm => by
    cases tp with
    | none => exact .inr rfl
    | some a =>
      refine .inl ?_
      show upd G.hp p o q = none
      rw [upd_ne (fun z => by rcases hm a rfl with h | h; exact (n a rfl).1 (by rw [← z]; exact h); exact (n a rfl).2 (by rw [← z]; exact h))]
      exact hq
/-- what only grows -/
theorem EnvV.grow (E : EnvV W tp G H σ ρ τ) (e : Ext none G H G' H') (g : SB W G' H') : EnvV W tp G' H' σ ρ τ := E.ext e.weak g (E.t.ext e)
theorem EnvV.new {p : Addr} (E : EnvV W tp G H σ ρ τ) (n : H p = none) : EnvV W tp (G.upd p o) (upd H p o) σ ρ τ := E.grow (Ext.new n E.g) (E.g.both n)
theorem TapeO.noM {p : Addr} (t : TapeO W G H tp τ) (n : H p = none) : NoM tp G p := fun a ha => by
  subst ha
  cases τ with
  | none => exact t.elim
  | some τ =>
    have t : TapeR W G H a τ := t
    obtain ⟨u, hu, _⟩ := t.n
    refine ⟨fun z => (by rw [← z, n] at hu; cases hu), fun z => ?_⟩
    obtain ⟨u, hu, _⟩ := t.s.nt p z
    rw [n] at hu
    cases hu
theorem EnvV.noM {p : Addr} (E : EnvV W tp G H σ ρ τ) (n : H p = none) : NoM tp G p := E.t.noM n
theorem EnvV.newH {p : Addr} (E : EnvV W tp G H σ ρ τ) (n : H p = none) : EnvV W tp G (upd H p o) σ ρ τ := E.grow (Ext.newH n) (E.g.trans (same_new n))
end
section
variable (W : Wp) (Wx : L2.St → XK) {α β : Type} (rel : Option Addr → GH → β → α → Prop)
/-- an exception has come -/
def ExR (G : GH) (H : Hp) (x : Ex) (d : Option Addr) : Prop := ∃ vs, XdAt G.hp d vs ∧ RpF W.K W.cm G vs x.fs
def Pg (tp : Option Addr) (σ : L2.St) (ρ : PEnv) (G : GH) (H : Hp) (Q : β → Hp → Prop) : R α → Prop
  | .ok a τ => ∀ b G' H', Ext tp G H G' H' → EnvV W tp G' H' σ ρ τ → rel tp G' b a → Q b H'
  | .ex x τ => ∀ d G' H', Ext tp G H G' H' → EnvV W tp G' H' σ ρ τ → ExR W G' H' x d → Wx σ (.ref (W.cm x.cls)) d H'
  | .no => False
def DnG (t : L2.St → Hp → (β → Hp → Prop) → Prop) (δ : PEnv → TS' → R α) : Prop :=
  ∀ tp G H σ ρ τ (Q : β → Hp → Prop), EnvV W tp G H σ ρ τ → Pg W Wx rel tp σ ρ G H Q (δ ρ τ) → t σ H Q
end
section
variable {W : Wp} {Wx : L2.St → XK} {α β α' β' : Type} {rel : Option Addr → GH → β → α → Prop} {rel' : Option Addr → GH → β' → α' → Prop}
variable {tp : Option Addr} {G G' : GH} {H H' : Hp} {σ : L2.St} {ρ : PEnv} {τ : TS'} {Q : β' → Hp → Prop} {Q' : β → Hp → Prop} {r : R α} {f : α → TS' → R α'}
theorem Pg.shift {r : R α'} (P : Pg W Wx rel' tp σ ρ G H Q r) (e : Ext tp G H G' H') : Pg W Wx rel' tp σ ρ G' H' Q r := by
  cases r with
  | ok a τ => exact fun b G2 H2 e2 => P b G2 H2 (e.trans e2)
  | ex x τ => exact fun d G2 H2 e2 => P d G2 H2 (e.trans e2)
  | no => exact P
theorem Pg.bind (P : Pg W Wx rel' tp σ ρ G H Q (r.bind f))
    (k : ∀ a τ1 b G1 H1, Ext tp G H G1 H1 → EnvV W tp G1 H1 σ ρ τ1 → rel tp G1 b a → Pg W Wx rel' tp σ ρ G1 H1 Q (f a τ1) → Q' b H1) : Pg W Wx rel tp σ ρ G H Q' r := by
  cases r with
  | ok a τ => exact fun b G2 H2 e2 E2 r2 => k a τ b G2 H2 e2 E2 r2 (Pg.shift (r := f a τ) P e2)
  | ex x τ => exact P
  | no => exact P
theorem Pg.ret {r : R α'} {a : α'} {b : β'} (e : r = .ok a τ) (P : Pg W Wx rel' tp σ ρ G H Q r) (E : EnvV W tp G H σ ρ τ) (h : rel' tp G b a) : Q b H := by
  subst e
  exact P b G H Ext.refl E h
end
abbrev rE (W : Wp) : Option Addr → GH → V → DD → Prop := fun _ G v d => Rp W.K W.cm G v d
abbrev rT : Option Addr → GH → Bool → Bool → Prop := fun _ _ b c => b = c
abbrev rA (W : Wp) : Option Addr → GH → List V → List DD → Prop := fun _ G v d => RpA W.K W.cm G v d
def ArgR (W : Wp) (tp : Option Addr) (G : GH) (v : V) : PV → Prop
  | .fr d => Rp W.K W.cm G v d
  | .tape => ∃ a, tp = some a ∧ v = .ref a
  | .ow _ => False
  | .scr ns => ∃ a, v = .ref a ∧ SqL W.K G.hp a (ns.map V.int)
  | .fn x => v = .ref (W.cm x)
  | .thk => False
abbrev rP (W : Wp) : Option Addr → GH → V → PV → Prop := fun tp G v d => ArgR W tp G v d
abbrev rPs (W : Wp) : Option Addr → GH → List V → List PV → Prop := fun tp G v d => Paired (ArgR W tp G) v d
abbrev DE := PEnv → TS' → R DD
abbrev DT := PEnv → TS' → R Bool
abbrev DA := PEnv → TS' → R (List DD)
abbrev DP := PEnv → TS' → R PV
abbrev DPs := PEnv → TS' → R (List PV)
abbrev Dn (W : Wp) (Wx : L2.St → XK) (t : TE) (δ : DE) : Prop := DnG W Wx (rE W) t δ
abbrev DnT (W : Wp) (Wx : L2.St → XK) (t : TT) (δ : DT) : Prop := DnG W Wx rT t δ
abbrev DnA (W : Wp) (Wx : L2.St → XK) (t : TA) (δ : DA) : Prop := DnG W Wx (rA W) t δ
abbrev DnPs (W : Wp) (Wx : L2.St → XK) (t : TA) (δ : DPs) : Prop := DnG W Wx (rPs W) t δ
abbrev DnP (W : Wp) (Wx : L2.St → XK) (t : TE) (δ : DP) : Prop := DnG W Wx (rP W) t δ
def dC (d : DD) : DE := fun _ τ => .ok d τ
def dV (i : Nat) : DE := fun ρ τ => match ρ[i]? with
  | some (some (.fr d)) => .ok d τ
  | _ => .no
def dOp (g : DD → DD → Option DD) (a b : DE) : DE := fun ρ τ => (a ρ τ).bind fun x τ1 => (b ρ τ1).bind fun y τ2 => R.of τ2 (g x y)
def dUn (g : DD → Option DD) (a : DE) : DE := fun ρ τ => (a ρ τ).bind fun x τ1 => R.of τ1 (g x)
/-- an operator's reading answers g -/
def OpD (W : Wp) (r : R2) (g : DD → DD → Option DD) : Prop := ∀ (G : GH) (H : Hp) (x y : V) (a b c : DD) (Q : VK), SB W G H → Rp W.K W.cm G x a → Rp W.K W.cm G y b → g a b = some c →
  (∀ v G' H', Ext none G H G' H' → SB W G' H' → Rp W.K W.cm G' v c → Q v H') → r x y H Q
def CallD (W : Wp) (r : List V → Hp → VK → Prop) (g : List DD → Option DD) : Prop := ∀ (G : GH) (H : Hp) (x : List V) (a : List DD) (c : DD) (Q : VK), SB W G H → RpA W.K W.cm G x a → g a = some c →
  (∀ v G' H', Ext none G H G' H' → SB W G' H' → Rp W.K W.cm G' v c → Q v H') → r x H Q
section
variable {W : Wp} {Wx : L2.St → XK} {ta tb : TE} {δa δb : DE}
theorem dn_c {v : V} {d : DD} (h : ∀ G, Rp W.K W.cm G v d) : Dn W Wx (tC v) (dC d) := fun tp G H σ ρ τ Q E P => P v G H Ext.refl E (h G)
theorem dn_int {i : Int} : Dn W Wx (tC (.int i)) (dC (.int i)) := dn_c fun _ => .int i
theorem dn_str {i : Str} : Dn W Wx (tC (.str i)) (dC (.str i)) := dn_c fun _ => .str i
theorem dn_bl {i : Bool} : Dn W Wx (tC (.bl i)) (dC (.bl i)) := dn_c fun _ => .bl i
theorem dn_non : Dn W Wx (tC .non) (dC .non) := dn_c fun _ => .non
theorem dn_v {i : Nat} : Dn W Wx (tVar i) (dV i) := fun tp G H σ ρ τ Q E P => by
  unfold dV at P
  split at P
  · rename_i d e
    obtain ⟨x, h1, h2⟩ := Paired.getL E.s e
    cases x with
    | none => exact h2.elim
    | some v => exact ⟨v, h1, P v G H Ext.refl E h2⟩
  · exact P.elim
theorem Pg.of {α β : Type} {rel : Option Addr → GH → β → α → Prop} {tp : Option Addr} {G : GH} {H : Hp} {σ : L2.St} {ρ : PEnv} {τ : TS'} {Q : β → Hp → Prop} {o : Option α} (P : Pg W Wx rel tp σ ρ G H Q (R.of τ o)) : ∃ a, o = some a ∧ Pg W Wx rel tp σ ρ G H Q (.ok a τ) := by
  cases o with
  | none => exact P.elim
  | some a => exact ⟨a, rfl, P⟩
theorem dn_op {r : R2} {g : DD → DD → Option DD} (ho : OpD W r g) (ha : Dn W Wx ta δa) (hb : Dn W Wx tb δb) : Dn W Wx (tOp r ta tb) (dOp g δa δb) := fun tp G H σ ρ τ Q E P =>
  ha _ _ _ _ _ _ _ E (P.bind fun a τ1 x G1 H1 e1 E1 r1 P1 => hb _ _ _ _ _ _ _ E1 (P1.bind fun b τ2 y G2 H2 e2 E2 r2 P2 => by
    obtain ⟨c, hc, P3⟩ := P2.of
    exact ho G2 H2 x y a b c Q E2.g (Rp.mono e2.g r1) r2 hc fun v G3 H3 e3 g3 r3 => P3 v G3 H3 e3.weak (E2.grow e3 g3) r3))
end
end Np
set_option Elab.async false
set_option linter.all false
set_option maxRecDepth 100000
set_option maxHeartbeats 4000000
namespace Np
open PySem PySem.Spec PyProof.Rows L2
def oInt (g : Int → Int → Option DD) : DD → DD → Option DD
  | .int i, .int j => g i j
  | _, _ => none
def oStr (g : Str → Str → Option DD) : DD → DD → Option DD
  | .str i, .str j => g i j
  | _, _ => none
instance (i j : Int) : Decidable (CMul i j) := by unfold CMul; infer_instance
instance (i j : Int) : Decidable (CDiv i j) := by unfold CDiv; infer_instance
instance (i j : Int) : Decidable (CDivN i j) := by unfold CDivN; infer_instance
instance (i j : Int) : Decidable (CPow i j) := by unfold CPow; infer_instance
theorem ext_n {G : GH} {H : Hp} : Ext none G H G H := Ext.refl
section
variable {W : Wp}
theorem od_I0 {f : Int → Int → V} {g : Int → Int → DD} (h : ∀ i j G, Rp W.K W.cm G (f i j) (g i j)) : OpD W (rI0 f) (oInt fun i j => some (g i j)) := by
  intro G H x y a b c Q s ra rb e k
  cases a <;> cases b <;> first | (cases e; done) | skip
  rename_i i j
  cases e
  exact ⟨i, j, ra.int_of, rb.int_of, k _ G H ext_n s (h i j G)⟩
theorem od_I {C : Int → Int → Prop} [∀ i j, Decidable (C i j)] {f : Int → Int → V} {g : Int → Int → DD} (h : ∀ i j G, Rp W.K W.cm G (f i j) (g i j)) : OpD W (rI C f) (oInt fun i j => if C i j then some (g i j) else none) := by
  intro G H x y a b c Q s ra rb e k
  cases a <;> cases b <;> first | (cases e; done) | skip
  rename_i i j
  have e : (if C i j then some (g i j) else none) = some c := e
  split at e
  · rename_i hc
    cases e
    exact ⟨i, j, ra.int_of, rb.int_of, hc, k _ G H ext_n s (h i j G)⟩
  · cases e
abbrev gAdd := oInt fun i j => some (.int (i + j))
abbrev gSub := oInt fun i j => some (.int (i - j))
abbrev gMul := oInt fun i j => if CMul i j then some (.int (i * j)) else none
abbrev gFdiv := oInt fun i j => if CDiv i j then some (.int (i / j)) else none
abbrev gFdivN := oInt fun i j => if CDivN i j then some (.int (i.fdiv j)) else none
abbrev gMod := oInt fun i j => if 0 < j then some (.int (i % j)) else none
abbrev gPow := oInt fun i j => if CPow i j then some (.int (i ^ j.toNat)) else none
abbrev gLt := oInt fun i j => some (.bl (decide (i < j)))
abbrev gLe := oInt fun i j => some (.bl (decide (i ≤ j)))
abbrev gGt := oInt fun i j => some (.bl (decide (j < i)))
abbrev gGe := oInt fun i j => some (.bl (decide (j ≤ i)))
theorem od_add : OpD W (rI0 fun i j => .int (i + j)) gAdd := od_I0 fun _ _ _ => .int _
theorem od_sub : OpD W (rI0 fun i j => .int (i - j)) gSub := od_I0 fun _ _ _ => .int _
theorem od_mul : OpD W (rI CMul fun i j => .int (i * j)) gMul := od_I fun _ _ _ => .int _
theorem od_fdiv : OpD W (rI CDiv fun i j => .int (i / j)) gFdiv := od_I fun _ _ _ => .int _
theorem od_fdivN : OpD W (rI CDivN fun i j => .int (i.fdiv j)) gFdivN := od_I fun _ _ _ => .int _
theorem od_mod : OpD W (rI (fun _ j => 0 < j) fun i j => .int (i % j)) gMod := od_I fun _ _ _ => .int _
theorem od_pow : OpD W (rI CPow fun i j => .int (i ^ j.toNat)) gPow := od_I fun _ _ _ => .int _
theorem od_lt : OpD W (rI0 fun i j => .bl (decide (i < j))) gLt := od_I0 fun _ _ _ => .bl _
theorem od_le : OpD W (rI0 fun i j => .bl (decide (i ≤ j))) gLe := od_I0 fun _ _ _ => .bl _
theorem od_gt : OpD W (rI0 fun i j => .bl (decide (j < i))) gGt := od_I0 fun _ _ _ => .bl _
theorem od_ge : OpD W (rI0 fun i j => .bl (decide (j ≤ i))) gGe := od_I0 fun _ _ _ => .bl _
abbrev gCatS := oStr fun i j => if i.length + j.length ≤ sizeLine then some (.str (i ++ j)) else none
theorem od_add_str : OpD W (fun x y H Q => ∃ i j, x = .str i ∧ y = .str j ∧ i.length + j.length ≤ sizeLine ∧ Q (.str (i ++ j)) H) gCatS := by
  intro G H x y a b c Q s ra rb e k
  cases a <;> cases b <;> first | (cases e; done) | skip
  rename_i i j
  have e : (if i.length + j.length ≤ sizeLine then some (DD.str (i ++ j)) else none) = some c := e
  split at e
  · rename_i hc
    cases e
    exact ⟨i, j, ra.str_of, rb.str_of, hc, k _ G H ext_n s (.str _)⟩
  · cases e
instance (z : Str) (n : Int) : Decidable (MulOk z n) := by unfold MulOk; infer_instance
def gMulS : DD → DD → Option DD
  | .str z, .int n => if MulOk z n then some (.str (Txt.mul z n)) else none
  | _, _ => none
def gEq (neg : Bool) : DD → DD → Option DD
  | .int i, .int j => some (.bl (if neg then !decide (i = j) else decide (i = j)))
  | .str i, .str j => some (.bl (if neg then !decide (i = j) else decide (i = j)))
  | .bl i, .bl j => some (.bl (if neg then !decide (i = j) else decide (i = j)))
  | .non, .non => some (.bl (!neg))
  | .non, .int _ => some (.bl neg)
  | .int _, .non => some (.bl neg)
  | .non, .bl _ => some (.bl neg)
  | .bl _, .non => some (.bl neg)
  | .non, .str _ => some (.bl neg)
  | .str _, .non => some (.bl neg)
  | .int _, .str _ => some (.bl neg)
  | .str _, .int _ => some (.bl neg)
  | .bl _, .str _ => some (.bl neg)
  | .str _, .bl _ => some (.bl neg)
  | _, _ => none
theorem od_eq : OpD W rEq (gEq false) := by
  intro G H x y a b c Q s ra rb e k
  unfold gEq at e
  split at e <;> first | (cases e; done) | skip
  all_goals
    cases e
    cases ra
    cases rb
    refine ⟨rfl, ?_⟩
    have q := k _ G H ext_n s (.bl _)
    simpa using q
theorem od_ne : OpD W rNe (gEq true) := by
  intro G H x y a b c Q s ra rb e k
  unfold gEq at e
  split at e <;> first | (cases e; done) | skip
  all_goals
    cases e
    cases ra
    cases rb
    refine ⟨rfl, ?_⟩
    have q := k _ G H ext_n s (.bl _)
    simpa using q
def gIsN (neg : Bool) : DD → DD → Option DD
  | .non, .non => some (.bl (!neg))
  | _, .non => some (.bl neg)
  | _, _ => none
theorem od_isN : OpD W (fun x y H Q => y = .non ∧ Q (.bl (decide (x = .non))) H) (gIsN false) := by
  intro G H x y a b c Q s ra rb e k
  unfold gIsN at e
  split at e <;> first | (cases e; done) | skip
  · cases e; cases ra; cases rb
    exact ⟨rfl, k _ G H ext_n s (.bl _)⟩
  · cases e; cases rb
    have q := k _ G H ext_n s (.bl _)
    cases ra <;> first | exact ⟨rfl, q⟩ | (rename_i h; exact (h rfl).elim)
end
end Np
set_option Elab.async false
set_option linter.all false
set_option maxRecDepth 100000
set_option maxHeartbeats 4000000
namespace Np
open PySem PySem.Spec PyProof.Rows L2
def ints? : List DD → Option (List Int)
  | [] => some []
  | .int i :: ds => (ints? ds).map (i :: ·)
  | _ => none
def strs? : List DD → Option (List Str)
  | [] => some []
  | .str i :: ds => (strs? ds).map (i :: ·)
  | _ => none
def bls? : List DD → Option (List Bool)
  | [] => some []
  | .bl i :: ds => (bls? ds).map (i :: ·)
  | _ => none
@[simp] theorem ints?_map : ∀ ns : List Int, ints? (ns.map DD.int) = some ns
  | [] => rfl
  | n :: ns => by show (ints? (ns.map DD.int)).map (n :: ·) = _; rw [ints?_map ns] <;> rfl
@[simp] theorem strs?_map : ∀ ns : List Str, strs? (ns.map DD.str) = some ns
  | [] => rfl
  | n :: ns => by show (strs? (ns.map DD.str)).map (n :: ·) = _; rw [strs?_map ns] <;> rfl
@[simp] theorem bls?_map : ∀ ns : List Bool, bls? (ns.map DD.bl) = some ns
  | [] => rfl
  | n :: ns => by show (bls? (ns.map DD.bl)).map (n :: ·) = _; rw [bls?_map ns] <;> rfl
theorem ints?_eq : ∀ {ds : List DD} {ns : List Int}, ints? ds = some ns → ds = ns.map DD.int
  | [], _, h => by cases h; rfl
  | d :: ds, ns, h => by
    cases d <;> first | (cases h; done) | skip
    obtain ⟨ms, h1, h2⟩ := Option.map_eq_some_iff.mp h
    rw [ints?_eq h1, ← h2] <;> rfl
theorem strs?_eq : ∀ {ds : List DD} {ns : List Str}, strs? ds = some ns → ds = ns.map DD.str
  | [], _, h => by cases h; rfl
  | d :: ds, ns, h => by
    cases d <;> first | (cases h; done) | skip
    obtain ⟨ms, h1, h2⟩ := Option.map_eq_some_iff.mp h
    rw [strs?_eq h1, ← h2] <;> rfl
theorem bls?_eq : ∀ {ds : List DD} {ns : List Bool}, bls? ds = some ns → ds = ns.map DD.bl
  | [], _, h => by cases h; rfl
  | d :: ds, ns, h => by
    cases d <;> first | (cases h; done) | skip
    obtain ⟨ms, h1, h2⟩ := Option.map_eq_some_iff.mp h
    rw [bls?_eq h1, ← h2] <;> rfl
def dNil : DA := fun _ τ => .ok [] τ
def dCons (a : DE) (r : DA) : DA := fun ρ τ => (a ρ τ).bind fun x τ1 => (r ρ τ1).bind fun xs τ2 => .ok (x :: xs) τ2
def dCall (g : List DD → Option DD) (a : DA) : DE := fun ρ τ => (a ρ τ).bind fun x τ1 => R.of τ1 (g x)
section
variable {W : Wp} {Wx : L2.St → XK} {ta tb tc : TE} {δa δb δc : DE} {tr : TA} {δr : DA}
theorem da_nil : DnA W Wx tNil dNil := fun tp G H σ ρ τ Q E P => P [] G H Ext.refl E .nil
theorem da_cons (ha : Dn W Wx ta δa) (hr : DnA W Wx tr δr) : DnA W Wx (tCons ta tr) (dCons δa δr) := fun tp G H σ ρ τ Q E P =>
  ha _ _ _ _ _ _ _ E (P.bind fun a τ1 x G1 H1 e1 E1 r1 P1 => hr _ _ _ _ _ _ _ E1 (P1.bind fun b τ2 y G2 H2 e2 E2 r2 P2 => P2 _ G2 H2 Ext.refl E2 (.cons (Rp.mono e2.g r1) r2)))
theorem dn_cb {r : List V → Hp → VK → Prop} {g : List DD → Option DD} (hc : CallD W r g) (hr : DnA W Wx tr δr) : Dn W Wx (tCB r tr) (dCall g δr) := fun tp G H σ ρ τ Q E P =>
  hr _ _ _ _ _ _ _ E (P.bind fun a τ1 x G1 H1 e1 E1 r1 P1 => by
    obtain ⟨c, hc', P3⟩ := P1.of
    exact hc G1 H1 x a c Q E1.g r1 hc' fun v G3 H3 e3 g3 r3 => P3 v G3 H3 e3.weak (E1.grow e3 g3) r3)
def dLst (a : DA) : DE := fun ρ τ => (a ρ τ).bind fun x τ1 => if x.length ≤ sizeLine then .ok (.lst x) τ1 else .no
def dTup (a : DA) : DE := fun ρ τ => (a ρ τ).bind fun x τ1 => if x.length ≤ sizeLine then .ok (.tup x) τ1 else .no
theorem rp_newL {G : GH} {p : Addr} {vs : List V} {ds : List DD} (n : G p = none) (r : RpA W.K W.cm G vs ds) : Rp W.K W.cm (G.upd p (.lst vs)) (.ref p) (.lst ds) := .lst upd_same (r.mono (GS.new n))
theorem rp_newT {G : GH} {p : Addr} {vs : List V} {ds : List DD} (n : G p = none) (r : RpA W.K W.cm G vs ds) : Rp W.K W.cm (G.upd p (.tup vs)) (.ref p) (.tup ds) := .tup upd_same (r.mono (GS.new n))
theorem dn_lst (hr : DnA W Wx tr δr) : Dn W Wx (tLst tr) (dLst δr) := fun tp G H σ ρ τ Q E P =>
  hr _ _ _ _ _ _ _ E (P.bind fun a τ1 x G1 H1 e1 E1 r1 P1 => by
    by_cases h : a.length ≤ sizeLine
    · rw [if_pos h] at P1
      exact ⟨by rw [r1.length]; exact h, fun p n => P1 _ _ _ (Ext.new n E1.g) (E1.new n) (rp_newL (E1.g.free n) r1)⟩
    · rw [if_neg h] at P1
      exact P1.elim)
theorem dn_tup (hr : DnA W Wx tr δr) : Dn W Wx (tTup tr) (dTup δr) := fun tp G H σ ρ τ Q E P =>
  hr _ _ _ _ _ _ _ E (P.bind fun a τ1 x G1 H1 e1 E1 r1 P1 => by
    by_cases h : a.length ≤ sizeLine
    · rw [if_pos h] at P1
      exact ⟨by rw [r1.length]; exact h, fun p n => P1 _ _ _ (Ext.new n E1.g) (E1.new n) (rp_newT (E1.g.free n) r1)⟩
    · rw [if_neg h] at P1
      exact P1.elim)
def dTest (a : DE) : DT := fun ρ τ => (a ρ τ).bind fun x τ1 => match x with
  | .bl b => .ok b τ1
  | _ => .no
theorem dt_test (ha : Dn W Wx ta δa) : DnT W Wx (tTest ta) (dTest δa) := fun tp G H σ ρ τ Q E P =>
  ha _ _ _ _ _ _ _ E (P.bind fun a τ1 x G1 H1 e1 E1 r1 P1 => by
    cases a <;> first | exact P1.elim | skip
    cases r1
    exact ⟨_, rfl, P1 _ G1 H1 Ext.refl E1 rfl⟩)
theorem dt_b (ha : Dn W Wx ta δa) : DnT W Wx (tB ta) (dTest δa) := dt_test ha
/-- the truth of a datum -/
def tru : DD → Option Bool
  | .non => some false
  | .bl b => some b
  | .int i => some (i != 0)
  | .str x => if x.length ≤ sizeLine then some ((x.length : Int) != 0) else none
  | .lst xs => some (!xs.isEmpty)
  | .tup xs => some (!xs.isEmpty)
  | .dic xs => some (!xs.isEmpty)
  | .obj _ _ => none
  | .exc _ _ => none
  | .raw _ => none
  | .ptr _ => none
  | .tux _ => none
def dTru (a : DE) : DT := fun ρ τ => (a ρ τ).bind fun x τ1 => R.of τ1 (tru x)
theorem RpA.isEmpty {K : PySem.W.Frag} {cm : CM} {H : GH} {vs : List V} {ds : List DD} (r : RpA K cm H vs ds) : vs.isEmpty = ds.isEmpty := by cases r <;> rfl
theorem RpK.isEmpty {K : PySem.W.Frag} {cm : CM} {H : GH} {vs : List (Key × V)} {ds : List (Key × DD)} (r : RpK K cm H vs ds) : vs.isEmpty = ds.isEmpty := by cases r <;> rfl
variable {tA tB' : TT} {δA δB : DT}
def dAnd (a b : DT) : DT := fun ρ τ => (a ρ τ).bind fun x τ1 => if x = true then b ρ τ1 else .ok false τ1
def dOr (a b : DT) : DT := fun ρ τ => (a ρ τ).bind fun x τ1 => if x = true then .ok true τ1 else b ρ τ1
def dNot (a : DT) : DT := fun ρ τ => (a ρ τ).bind fun x τ1 => .ok (!x) τ1
theorem dt_and (ha : DnT W Wx tA δA) (hb : DnT W Wx tB' δB) : DnT W Wx (tAnd tA tB') (dAnd δA δB) := fun tp G H σ ρ τ Q E P =>
  ha _ _ _ _ _ _ _ E (P.bind fun a τ1 x G1 H1 e1 E1 r1 P1 => by
    cases r1
    cases a with
    | true => exact iteT (hb _ _ _ _ _ _ _ E1 P1)
    | false => exact iteF (P1 _ G1 H1 Ext.refl E1 rfl))
theorem dt_or (ha : DnT W Wx tA δA) (hb : DnT W Wx tB' δB) : DnT W Wx (tOr tA tB') (dOr δA δB) := fun tp G H σ ρ τ Q E P =>
  ha _ _ _ _ _ _ _ E (P.bind fun a τ1 x G1 H1 e1 E1 r1 P1 => by
    cases r1
    cases a with
    | true => exact iteT (P1 _ G1 H1 Ext.refl E1 rfl)
    | false => exact iteF (hb _ _ _ _ _ _ _ E1 P1))
theorem dt_not (ha : DnT W Wx tA δA) : DnT W Wx (tNot tA) (dNot δA) := fun tp G H σ ρ τ Q E P =>
  ha _ _ _ _ _ _ _ E (P.bind fun a τ1 x G1 H1 e1 E1 r1 P1 => by
    cases r1
    exact P1 _ G1 H1 Ext.refl E1 rfl)
def dIf (a : DT) (b c : DE) : DE := fun ρ τ => (a ρ τ).bind fun x τ1 => if x = true then b ρ τ1 else c ρ τ1
theorem dn_if (h : DnT W Wx tA δA) (ha : Dn W Wx ta δa) (hb : Dn W Wx tb δb) : Dn W Wx (tIf tA ta tb) (dIf δA δa δb) := fun tp G H σ ρ τ Q E P =>
  h _ _ _ _ _ _ _ E (P.bind fun a τ1 x G1 H1 e1 E1 r1 P1 => by
    cases r1
    cases a with
    | true => exact iteT (ha _ _ _ _ _ _ _ E1 P1)
    | false => exact iteF (hb _ _ _ _ _ _ _ E1 P1))
/-- and, or, not of truths, as values -/
def dAndV (a b : DE) : DE := fun ρ τ => (a ρ τ).bind fun x τ1 => match x with
  | .bl true => b ρ τ1
  | .bl false => .ok (.bl false) τ1
  | _ => .no
def dOrV (a b : DE) : DE := fun ρ τ => (a ρ τ).bind fun x τ1 => match x with
  | .bl true => .ok (.bl true) τ1
  | .bl false => b ρ τ1
  | _ => .no
def dNotV (a : DE) : DE := fun ρ τ => (a ρ τ).bind fun x τ1 => match x with
  | .bl b => .ok (.bl (!b)) τ1
  | _ => .no
theorem dn_and (ha : Dn W Wx ta δa) (hb : Dn W Wx tb δb) : Dn W Wx (tAndV ta tb) (dAndV δa δb) := fun tp G H σ ρ τ Q E P =>
  ha _ _ _ _ _ _ _ E (P.bind fun a τ1 x G1 H1 e1 E1 r1 P1 => by
    cases a <;> first | exact P1.elim | skip
    cases r1
    rename_i b
    cases b with
    | true => exact ⟨_, rfl, iteT (hb _ _ _ _ _ _ _ E1 P1)⟩
    | false => exact ⟨_, rfl, iteF (P1 _ G1 H1 Ext.refl E1 (.bl _))⟩)
/-- a op b op c -/
def dChain (g g' : DD → DD → Option DD) (a b c : DE) : DE := fun ρ τ => (a ρ τ).bind fun x τ1 => (b ρ τ1).bind fun y τ2 => (R.of τ2 (g x y)).bind fun z τ3 => match z with
  | .bl true => (c ρ τ3).bind fun w τ4 => R.of τ4 (g' y w)
  | .bl false => .ok (.bl false) τ3
  | _ => .no
theorem dn_chain {r r' : R2} {g g' : DD → DD → Option DD} (ho : OpD W r g) (ho' : OpD W r' g') (ha : Dn W Wx ta δa) (hb : Dn W Wx tb δb) (hc : Dn W Wx tc δc) : Dn W Wx (tChain r r' ta tb tc) (dChain g g' δa δb δc) := fun tp G H σ ρ τ Q E P =>
  ha _ _ _ _ _ _ _ E (P.bind fun a τ1 x G1 H1 e1 E1 r1 P1 => hb _ _ _ _ _ _ _ E1 (P1.bind fun b τ2 y G2 H2 e2 E2 r2 P2 => by
    cases hg : g a b with
    | none => rw [hg] at P2; exact P2.elim
    | some z =>
      rw [hg] at P2
      refine ho G2 H2 x y a b z _ E2.g (Rp.mono e2.g r1) r2 hg fun v G3 H3 e3 g3 r3 => ?_
      have P3 := Pg.shift P2 e3.weak
      have E3 := E2.grow e3 g3
      cases z <;> first | exact P3.elim | skip
      cases r3
      rename_i k
      cases k with
      | false => exact ⟨_, rfl, iteF (P3 _ G3 H3 Ext.refl E3 (.bl _))⟩
      | true => exact ⟨_, rfl, iteT (hc _ _ _ _ _ _ _ E3 (Pg.bind P3 fun w τ4 u G4 H4 e4 E4 r4 P4 => by
          obtain ⟨d, hd, P5⟩ := P4.of
          exact ho' G4 H4 y u b w d Q E4.g (Rp.mono (e3.g.trans e4.g) r2) r4 hd fun v G5 H5 e5 g5 r5 => P5 v G5 H5 e5.weak (E4.grow e5 g5) r5))⟩))
end
end Np
set_option Elab.async false
set_option linter.all false
set_option maxRecDepth 100000
set_option maxHeartbeats 4000000
namespace Np
open PySem PySem.Spec PyProof.Rows L2
section
variable {W : Wp} {Wx : L2.St → XK} {ta tb tc : TE} {δa δb δc : DE} {tr : TA} {δr : DA}
theorem RpA.atI {K : PySem.W.Frag} {cm : CM} {H : GH} {vs : List V} {ds : List DD} {i : Int} {d : DD} (r : RpA K cm H vs ds) (h : L2.atI ds i = some d) : ∃ v, L2.atI vs i = some v ∧ Rp K cm H v d := by
  unfold L2.atI at h ⊢
  rw [r.length]
  obtain ⟨j, h1, h2⟩ := Option.bind_eq_some_iff.mp h
  obtain ⟨v, e, rv⟩ := r.get h2
  exact ⟨v, by rw [h1]; exact e, rv⟩
def gIxL : DD → DD → Option DD
  | .lst ds, .int i => atI ds i
  | _, _ => none
def gIxT : DD → DD → Option DD
  | .tup ds, .int i => atI ds i
  | _, _ => none
def gIxS : DD → DD → Option DD
  | .str z, .int i => if z.length ≤ sizeLine then (atI z.cps.toList i).map fun c => .str ⟨#[c]⟩ else none
  | _, _ => none
theorem od_ixL : OpD W (rIxL W.K) gIxL := by
  intro G H x y a b c Q s ra rb e k
  cases a <;> cases b <;> first | (cases e; done) | skip
  cases ra with
  | lst h r =>
    obtain ⟨v, e1, rv⟩ := r.atI (show L2.atI _ _ = some c from e)
    exact ⟨_, _, _, v, rfl, rb.int_of, SqL.of (s _ _ h), e1, k _ G H ext_n s rv⟩
theorem od_ixT : OpD W (rIxT W.K) gIxT := by
  intro G H x y a b c Q s ra rb e k
  cases a <;> cases b <;> first | (cases e; done) | skip
  cases ra with
  | tup h r =>
    obtain ⟨v, e1, rv⟩ := r.atI (show L2.atI _ _ = some c from e)
    exact ⟨_, _, _, v, rfl, rb.int_of, SqT.of (s _ _ h), e1, k _ G H ext_n s rv⟩
theorem od_ixS : OpD W rIxS gIxS := by
  intro G H x y a b c Q s ra rb e k
  cases a <;> cases b <;> first | (cases e; done) | skip
  rename_i z i
  have e : (if z.length ≤ sizeLine then (L2.atI z.cps.toList i).map fun c => DD.str ⟨#[c]⟩ else none) = some c := e
  split at e
  · rename_i hz
    obtain ⟨n, h1, h2⟩ := Option.map_eq_some_iff.mp e
    cases h2
    exact ⟨z, i, n, ra.str_of, rb.int_of, hz, h1, k _ G H ext_n s (.str _)⟩
  · cases e
abbrev DO := PEnv → TS' → R (Option Int)
abbrev rO : Option Addr → GH → Option Int → Option Int → Prop := fun _ _ b c => b = c
abbrev DnO (W : Wp) (Wx : L2.St → XK) (t : TO) (δ : DO) : Prop := DnG W Wx rO t δ
def dNoP : DO := fun _ τ => .ok none τ
def dPart (a : DE) : DO := fun ρ τ => (a ρ τ).bind fun x τ1 => match x with
  | .int i => .ok (some i) τ1
  | _ => .no
theorem do_none : DnO W Wx tNoPart dNoP := fun tp G H σ ρ τ Q E P => P none G H Ext.refl E rfl
theorem do_some (ha : Dn W Wx ta δa) : DnO W Wx (tPart ta) (dPart δa) := fun tp G H σ ρ τ Q E P =>
  ha _ _ _ _ _ _ _ E (P.bind fun a τ1 x G1 H1 e1 E1 r1 P1 => by
    cases a <;> first | exact P1.elim | skip
    cases r1
    exact ⟨_, rfl, P1 _ G1 H1 Ext.refl E1 rfl⟩)
def SlD (W : Wp) (r : V → Option Int → Option Int → Hp → VK → Prop) (g : DD → Option Int → Option Int → Option DD) : Prop := ∀ (G : GH) (H : Hp) (x : V) (a c : DD) (lo hi : Option Int) (Q : VK), SB W G H → Rp W.K W.cm G x a → g a lo hi = some c →
  (∀ v G' H', Ext none G H G' H' → SB W G' H' → Rp W.K W.cm G' v c → Q v H') → r x lo hi H Q
def dSl (g : DD → Option Int → Option Int → Option DD) (a : DE) (l h : DO) : DE := fun ρ τ => (a ρ τ).bind fun x τ1 => (l ρ τ1).bind fun lo τ2 => (h ρ τ2).bind fun hi τ3 => R.of τ3 (g x lo hi)
theorem dn_slice {tl th : TO} {δl δh : DO} {r : V → Option Int → Option Int → Hp → VK → Prop} {g : DD → Option Int → Option Int → Option DD} (hs : SlD W r g) (ha : Dn W Wx ta δa) (hl : DnO W Wx tl δl) (hh : DnO W Wx th δh) : Dn W Wx (tSl r ta tl th) (dSl g δa δl δh) := fun tp G H σ ρ τ Q E P =>
  ha _ _ _ _ _ _ _ E (P.bind fun a τ1 x G1 H1 e1 E1 r1 P1 => hl _ _ _ _ _ _ _ E1 (P1.bind fun lo τ2 y G2 H2 e2 E2 r2 P2 => hh _ _ _ _ _ _ _ E2 (P2.bind fun hi τ3 z G3 H3 e3 E3 r3 P3 => by
    cases r2
    cases r3
    obtain ⟨c, hc, P4⟩ := P3.of
    exact hs G3 H3 x a c lo hi Q E3.g (Rp.mono (e2.g.trans e3.g) r1) hc fun v G4 H4 e4 g4 r4 => P4 v G4 H4 e4.weak (E3.grow e4 g4) r4)))
def cutL {α : Type} (xs : List α) (lo hi : Option Int) : List α := (xs.drop (HT.sIx xs.length 0 lo)).take (HT.sIx xs.length xs.length hi - HT.sIx xs.length 0 lo)
theorem RpA.cut {K : PySem.W.Frag} {cm : CM} {H : GH} {vs : List V} {ds : List DD} (r : RpA K cm H vs ds) (lo hi : Option Int) : RpA K cm H (cutV vs lo hi) (cutL ds lo hi) := by
  unfold cutV cutL
  rw [r.length]
  exact (r.drop _).take _
def gSlL : DD → Option Int → Option Int → Option DD
  | .lst ds, lo, hi => some (.lst (cutL ds lo hi))
  | _, _, _ => none
def gSlS : DD → Option Int → Option Int → Option DD
  | .str z, lo, hi => if z.length ≤ sizeLine then some (.str (cutS z lo hi)) else none
  | _, _, _ => none
theorem sd_list : SlD W (rSlL W.K) gSlL := by
  intro G H x a c lo hi Q s ra e k
  cases a <;> first | (cases e; done) | skip
  cases ra with
  | lst h r =>
    cases e
    exact ⟨_, _, rfl, SqL.of (s _ _ h), fun p n => k _ _ _ (Ext.new n s) (s.both n) (rp_newL (s.free n) (r.cut lo hi))⟩
theorem sd_str : SlD W rSlS gSlS := by
  intro G H x a c lo hi Q s ra e k
  cases a <;> first | (cases e; done) | skip
  rename_i z
  have e : (if z.length ≤ sizeLine then some (DD.str (cutS z lo hi)) else none) = some c := e
  split at e
  · rename_i hz
    cases e
    exact ⟨z, ra.str_of, hz, k _ G H ext_n s (.str _)⟩
  · cases e
def gRevL : DD → Option DD
  | .lst ds => some (.lst ds.reverse)
  | _ => none
def gRevS : DD → Option DD
  | .str z => if z.length ≤ sizeLine then some (.str (revS z)) else none
  | _ => none
theorem dn_revL (ha : Dn W Wx ta δa) : Dn W Wx (tRevL W.K ta) (dUn gRevL δa) := fun tp G H σ ρ τ Q E P =>
  ha _ _ _ _ _ _ _ E (P.bind fun a τ1 x G1 H1 e1 E1 r1 P1 => by
    obtain ⟨c, hc, P2⟩ := P1.of
    cases r1 <;> first | (cases hc; done) | skip
    rename_i h r
    cases hc
    exact ⟨_, _, rfl, SqL.of (E1.g _ _ h), fun p n => P2 _ _ _ (Ext.new n E1.g) (E1.new n) (rp_newL (E1.g.free n) r.reverse)⟩)
def gCat : DD → DD → Option DD
  | .lst a, .lst b => if a.length + b.length ≤ sizeLine then some (.lst (a ++ b)) else none
  | _, _ => none
theorem od_cat : OpD W rCat gCat := by
  intro G H x y a b c Q s ra rb e k
  cases ra <;> first | (cases e; done) | skip
  cases rb <;> first | (cases e; done) | skip
  rename_i p xs ds h r q ys es h' r'
  have e : (if ds.length + es.length ≤ sizeLine then some (DD.lst (ds ++ es)) else none) = some c := e
  split at e
  · rename_i hz
    cases e
    exact ⟨p, q, xs, ys, rfl, rfl, s _ _ h, s _ _ h', by rw [r.length, r'.length]; exact hz, fun p n => k _ _ _ (Ext.new n s) (s.both n) (rp_newL (s.free n) (r.append r'))⟩
  · cases e
def gCatT : DD → DD → Option DD
  | .tup a, .tup b => if a.length + b.length ≤ sizeLine then some (.tup (a ++ b)) else none
  | _, _ => none
def gRep : DD → DD → Option DD
  | .lst a, .int k => if -(2 ^ 63) ≤ k ∧ k < 2 ^ 63 ∧ a.length * k.toNat ≤ sizeLine then some (.lst (List.replicate k.toNat a).flatten) else none
  | _, _ => none
def flat? : DD → Option V
  | .non => some .non
  | .bl b => some (.bl b)
  | .int b => some (.int b)
  | .str b => some (.str b)
  | _ => none
def flats? : List DD → Option (List V)
  | [] => some []
  | d :: ds => match flat? d, flats? ds with
    | some v, some vs => some (v :: vs)
    | _, _ => none
theorem flat?_eq {K : PySem.W.Frag} {cm : CM} {H : GH} {v u : V} {d : DD} (r : Rp K cm H v d) (h : flat? d = some u) : v = u ∧ flatV v = true := by
  cases r <;> first | (cases h; done) | (cases h; exact ⟨rfl, rfl⟩)
theorem flats?_eq {K : PySem.W.Frag} {cm : CM} {H : GH} : ∀ {v u : List V} {d : List DD}, RpA K cm H v d → flats? d = some u → v = u ∧ v.all flatV = true
  | _, _, _, .nil, h => by cases h; exact ⟨rfl, rfl⟩
  | _, _, _, .cons r rs, h => by
    unfold flats? at h
    split at h
    · rename_i v vs h1 h2
      cases h
      obtain ⟨rfl, e1⟩ := flat?_eq r h1
      obtain ⟨rfl, e2⟩ := flats?_eq rs h2
      exact ⟨rfl, by rw [List.all_cons, e1, e2]; rfl⟩
    · cases h
@[simp] theorem flats?_strs : ∀ ns : List Str, flats? (ns.map DD.str) = some (ns.map V.str)
  | [] => rfl
  | n :: ns => by rw [List.map_cons, flats?, flats?_strs ns]; rfl
@[simp] theorem flats?_ints : ∀ ns : List Int, flats? (ns.map DD.int) = some (ns.map V.int)
  | [] => rfl
  | n :: ns => by rw [List.map_cons, flats?, flats?_ints ns]; rfl
def items? : DD → Option (List DD)
  | .lst ds => some ds
  | .tup ds => some ds
  | .tux ds => some ds
  | _ => none
def gInF (neg : Bool) (a b : DD) : Option DD := match flat? a, (items? b).bind flats? with
  | some x, some xs => some (.bl (if neg then !inV x xs else inV x xs))
  | _, _ => none
theorem od_in_seq {neg : Bool} : OpD W (rIn W.K neg) (gInF neg) := by
  intro G H x y a b c Q s ra rb e k
  unfold gInF at e
  split at e
  · rename_i x' xs h1 h2
    cases e
    obtain ⟨rfl, f1⟩ := flat?_eq ra h1
    obtain ⟨ds, h3, h4⟩ := Option.bind_eq_some_iff.mp h2
    cases rb <;> first | (cases h3; done) | skip
    · rename_i h r
      cases h3
      obtain ⟨rfl, f2⟩ := flats?_eq r h4
      exact ⟨_, _, rfl, .inl (SqL.of (s _ _ h)), f1, f2, k _ G H ext_n s (.bl _)⟩
    · rename_i h r
      cases h3
      obtain ⟨rfl, f2⟩ := flats?_eq r h4
      exact ⟨_, _, rfl, .inr (SqT.of (s _ _ h)), f1, f2, k _ G H ext_n s (.bl _)⟩
    · rename_i h _ r
      cases h3
      obtain ⟨rfl, f2⟩ := flats?_eq r h4
      exact ⟨_, _, rfl, .inr (.inl (.inr ⟨_, s _ _ h⟩)), f1, f2, k _ G H ext_n s (.bl _)⟩
  · cases e
theorem inV_strs (x : Str) (xs : List Str) : inV (.str x) (xs.map V.str) = decide (x ∈ xs) := by
  unfold inV
  rw [List.any_map]
  induction xs with
  | nil => rfl
  | cons y ys ih =>
    rw [List.any_cons, ih]
    show (y == x || _) = _
    by_cases h : x = y
    · subst h; simp
    · have h2 : (y == x) = false := beq_eq_false_iff_ne.mpr fun z => h z.symm
      rw [h2, Bool.false_or]
      by_cases h3 : x ∈ ys
      · rw [decide_eq_true h3, decide_eq_true (List.mem_cons_of_mem _ h3)]
      · rw [decide_eq_false h3, decide_eq_false fun z => (List.mem_cons.mp z).elim h h3]
end
end Np
set_option Elab.async false
set_option linter.all false
set_option maxRecDepth 100000
set_option maxHeartbeats 4000000
namespace Np
open PySem PySem.Spec PyProof.Rows L2
mutual
def toPy : DD → Option PyData
  | .non => some .none
  | .bl b => some (.bool b)
  | .int i => some (.int i)
  | .str x => some (.str x)
  | .lst ds => (toPys ds).map .list
  | .tup ds => (toPys ds).map .tuple
  | _ => none
def toPys : List DD → Option (List PyData)
  | [] => some []
  | d :: ds => match toPy d, toPys ds with
    | some p, some ps => some (p :: ps)
    | _, _ => none
end
section
variable {W : Wp} {Wx : L2.St → XK} {ta tb tc : TE} {δa δb δc : DE} {tr : TA} {δr : DA}
mutual
theorem Rp.dp {K : PySem.W.Frag} {cm : CM} {H : GH} : ∀ {v : V} {d : DD} {p : PyData}, Rp K cm H v d → toPy d = some p → Dp K H v p
  | _, _, _, .non, h => by rw [toPy] at h; cases h; exact .non
  | _, _, _, .bl b, h => by rw [toPy] at h; cases h; exact .bl b
  | _, _, _, .int b, h => by rw [toPy] at h; cases h; exact .int b
  | _, _, _, .str b, h => by rw [toPy] at h; cases h; exact .str b
  | _, _, _, .lst a r, h => by
    rw [toPy] at h
    obtain ⟨ps, h1, h2⟩ := Option.map_eq_some_iff.mp h
    cases h2
    exact .lst (SqL.of a) (RpA.dps r h1)
  | _, _, _, .tup a r, h => by
    rw [toPy] at h
    obtain ⟨ps, h1, h2⟩ := Option.map_eq_some_iff.mp h
    cases h2
    exact .tup (SqT.of a) (RpA.dps r h1)
  | _, _, _, .dic a r, h => by rw [toPy] at h <;> first | (cases h; done) | (intros; contradiction)
  | _, _, _, .obj a r, h => by rw [toPy] at h <;> first | (cases h; done) | (intros; contradiction)
  | _, _, _, .exc a z q b r, h => by rw [toPy] at h <;> first | (cases h; done) | (intros; contradiction)
  | _, _, _, .raw a, h => by rw [toPy] at h <;> first | (cases h; done) | (intros; contradiction)
  | _, _, _, .ptr a, h => by rw [toPy] at h <;> first | (cases h; done) | (intros; contradiction)
  | _, _, _, .tux a n r, h => by rw [toPy] at h <;> first | (cases h; done) | (intros; contradiction)
theorem RpA.dps {K : PySem.W.Frag} {cm : CM} {H : GH} : ∀ {v : List V} {d : List DD} {p : List PyData}, RpA K cm H v d → toPys d = some p → DpAll K H v p
  | _, _, _, .nil, h => by rw [toPys] at h; cases h; exact .nil
  | _, _, _, .cons r rs, h => by
    rw [toPys] at h
    split at h
    · rename_i p ps h1 h2
      cases h
      exact .cons (Rp.dp r h1) (RpA.dps rs h2)
    · cases h
end
def py2 (g : PyData → PyData → Option DD) (a b : DD) : Option DD := match toPy a, toPy b with
  | some p, some q => if SeqAt.shaped p = true ∧ SeqAt.shaped q = true then g p q else none
  | _, _ => none
abbrev gEqD := py2 fun p q => some (.bl (PyData.eqv p q))
abbrev gNeD := py2 fun p q => some (.bl (!PyData.eqv p q))
theorem py2_eq {g : PyData → PyData → Option DD} {a b c : DD} (h : py2 g a b = some c) : ∃ p q, toPy a = some p ∧ toPy b = some q ∧ SeqAt.shaped p = true ∧ SeqAt.shaped q = true ∧ g p q = some c := by
  unfold py2 at h
  split at h
  · rename_i p q h1 h2
    split at h
    · rename_i h3
      exact ⟨p, q, h1, h2, h3.1, h3.2, h⟩
    · cases h
  · cases h
theorem od_neD : OpD W (rNeD W.K) gNeD := by
  intro G H x y a b c Q s ra rb e k
  obtain ⟨p, q, h1, h2, h3, h4, h5⟩ := py2_eq e
  cases h5
  exact ⟨p, q, (ra.mono s.gs).dp h1, (rb.mono s.gs).dp h2, h3, h4, k _ G H ext_n s (.bl _)⟩
def c1 (g : DD → Option DD) : List DD → Option DD
  | [d] => g d
  | _ => none
def c2 (g : DD → DD → Option DD) : List DD → Option DD
  | [d, e] => g d e
  | _ => none
theorem c1_eq {g : DD → Option DD} {ds : List DD} {c : DD} (h : c1 g ds = some c) : ∃ d, ds = [d] ∧ g d = some c := by
  unfold c1 at h
  split at h
  · exact ⟨_, rfl, h⟩
  · cases h
theorem c2_eq {g : DD → DD → Option DD} {ds : List DD} {c : DD} (h : c2 g ds = some c) : ∃ d e, ds = [d, e] ∧ g d e = some c := by
  unfold c2 at h
  split at h
  · exact ⟨_, _, rfl, h⟩
  · cases h
def gLenS : DD → Option DD
  | .str z => if z.length ≤ sizeLine then some (.int z.length) else none
  | _ => none
def gLenL (d : DD) : Option DD := (items? d).map fun ds => .int ds.length
theorem cd_lenL : CallD W (rLenK W.K) (c1 gLenL) := by
  intro G H x a c Q s ra e k
  replace e := c1_eq e
  obtain ⟨d, rfl, e⟩ := e
  cases ra with | cons r rs =>
  cases rs
  obtain ⟨ds, h1, h2⟩ := Option.map_eq_some_iff.mp e
  cases h2
  cases r <;> first | (cases h1; done) | skip
  · rename_i h r
    cases h1
    exact ⟨_, _, rfl, .inl (SqL.of (s _ _ h)), k _ G H ext_n s (by rw [r.length]; exact .int _)⟩
  · rename_i h r
    cases h1
    exact ⟨_, _, rfl, .inr (SqT.of (s _ _ h)), k _ G H ext_n s (by rw [r.length]; exact .int _)⟩
  · rename_i h _ r
    cases h1
    exact ⟨_, _, rfl, .inr (.inl (.inr ⟨_, s _ _ h⟩)), k _ G H ext_n s (by rw [r.length]; exact .int _)⟩
def gAbs : DD → Option DD
  | .int i => some (.int (if i < 0 then -i else i))
  | _ => none
theorem cd_abs : CallD W (fun xs H Q => ∃ i, xs = [.int i] ∧ Q (.int (if i < 0 then -i else i)) H) (c1 gAbs) := by
  intro G H x a c Q s ra e k
  replace e := c1_eq e
  obtain ⟨d, rfl, e⟩ := e
  cases ra with | cons r rs =>
  cases rs
  cases d <;> first | (cases e; done) | skip
  cases e
  exact ⟨_, by rw [r.int_of], k _ G H ext_n s (.int _)⟩
abbrev gMax2 := oInt fun i j => some (.int (if j > i then j else i))
abbrev gMin2 := oInt fun i j => some (.int (if j < i then j else i))
theorem cd_max2 : CallD W (fun xs H Q => ∃ i j, xs = [.int i, .int j] ∧ Q (.int (if j > i then j else i)) H) (c2 gMax2) := by
  intro G H x a c Q s ra e k
  replace e := c2_eq e
  obtain ⟨d, d', rfl, e⟩ := e
  cases ra with | cons r rs =>
  cases rs with | cons r' rs =>
  cases rs
  cases d <;> cases d' <;> first | (cases e; done) | skip
  cases e
  exact ⟨_, _, by rw [r.int_of, r'.int_of], k _ G H ext_n s (.int _)⟩
theorem cd_min2 : CallD W (fun xs H Q => ∃ i j, xs = [.int i, .int j] ∧ Q (.int (if j < i then j else i)) H) (c2 gMin2) := by
  intro G H x a c Q s ra e k
  replace e := c2_eq e
  obtain ⟨d, d', rfl, e⟩ := e
  cases ra with | cons r rs =>
  cases rs with | cons r' rs =>
  cases rs
  cases d <;> cases d' <;> first | (cases e; done) | skip
  cases e
  exact ⟨_, _, by rw [r.int_of, r'.int_of], k _ G H ext_n s (.int _)⟩
def gStrI : DD → Option DD
  | .int i => if i.natAbs.log2 < 1920 then some (.str (toString i)) else none
  | _ => none
def gIntS : DD → Option DD
  | .str a => if a.length ≤ 640 then (PySem.intText? a).map .int else none
  | _ => none
def gInt1 : DD → Option DD
  | .int a => some (.int a)
  | .bl b => some (.int (if b then 1 else 0))
  | _ => none
def gSum : DD → Option DD
  | .lst ds => (ints? ds).map fun ns => .int ns.sum
  | _ => none
theorem cd_sum : CallD W (rSum W.K) (c1 gSum) := by
  intro G H x a c Q s ra e k
  replace e := c1_eq e
  obtain ⟨d, rfl, e⟩ := e
  cases ra with | cons r rs =>
  cases rs
  cases r <;> first | (cases e; done) | skip
  rename_i h r
  obtain ⟨ns, h1, h2⟩ := Option.map_eq_some_iff.mp e
  cases h2
  cases ints?_eq h1
  exact ⟨_, ns, rfl, by rw [← r.ints_of]; exact SqL.of (s _ _ h), k _ G H ext_n s (.int _)⟩
def maxL : Int → List Int → Int
  | m, [] => m
  | m, n :: ns => maxL (max m n) ns
def minL : Int → List Int → Int
  | m, [] => m
  | m, n :: ns => minL (min m n) ns
def gAllL : DD → Option DD
  | .lst ds => (bls? ds).map fun bs => .bl (bs.all id)
  | _ => none
def gAnyL : DD → Option DD
  | .lst ds => (bls? ds).map fun bs => .bl (bs.any id)
  | _ => none
theorem cd_anyL : CallD W (rAny W.K) (c1 gAnyL) := by
  intro G H x a c Q s ra e k
  replace e := c1_eq e
  obtain ⟨d, rfl, e⟩ := e
  cases ra with | cons r rs =>
  cases rs
  cases r <;> first | (cases e; done) | skip
  rename_i h r
  obtain ⟨ns, h1, h2⟩ := Option.map_eq_some_iff.mp e
  cases h2
  cases bls?_eq h1
  exact ⟨_, ns, rfl, by rw [← r.bls_of]; exact SqL.of (s _ _ h), k _ G H ext_n s (.bl _)⟩
def gList (d : DD) : Option DD := (items? d).map .lst
def gTuple : DD → Option DD
  | .lst ds => some (.tup ds)
  | .tup ds => some (.tup ds)
  | _ => none
theorem cd_tuple : CallD W (rTupleK W.K) (c1 gTuple) := by
  intro G H x a c Q s ra e k
  replace e := c1_eq e
  obtain ⟨d, rfl, e⟩ := e
  cases ra with | cons r rs =>
  cases rs
  cases r <;> first | (cases e; done) | skip
  · rename_i h r
    cases e
    exact ⟨_, _, rfl, .inl ⟨SqL.of (s _ _ h), fun p n => k _ _ _ (Ext.new n s) (s.both n) (rp_newT (s.free n) r)⟩⟩
  · rename_i h r
    cases e
    exact ⟨_, _, rfl, .inr ⟨SqT.of (s _ _ h), k _ G H ext_n s (.tup h r)⟩⟩
def signs (z : Str) : List DD := z.cps.toList.map fun c => DD.str ⟨#[c]⟩
def gListS : DD → Option DD
  | .str z => if z.length ≤ sizeLine then some (.lst (signs z)) else none
  | _ => none
def tyN : DD → Option String
  | .non => some "NoneType"
  | .bl _ => some "bool"
  | .int _ => some "int"
  | .str _ => some "str"
  | .lst _ => some "list"
  | .tup _ => some "tuple"
  | .dic _ => some "dict"
  | .obj _ _ => none
  | .exc _ _ => none
  | .raw _ => none
  | .ptr _ => none
  | .tux _ => none
def isT (T : String) (n : String) : Bool := n == T || (n == "bool" && T == "int")
def gIsi (T : String) (d : DD) : Option DD := (tyN d).map fun n => .bl (isT T n)
def gIsi2 (T U : String) (d : DD) : Option DD := (tyN d).map fun n => .bl (isT T n || isT U n)
end
end Np
set_option Elab.async false
set_option linter.all false
set_option maxRecDepth 100000
set_option maxHeartbeats 4000000
namespace Np
open PySem PySem.Spec PyProof.Rows L2
section
variable {W : Wp} {Wx : L2.St → XK} {ta tb tc : TE} {δa δb δc : DE} {tr : TA} {δr : DA}
def MtD (W : Wp) (r : V → List V → Hp → VK → Prop) (g : Str → List DD → Option DD) : Prop := ∀ (G : GH) (H : Hp) (z : Str) (xs : List V) (as : List DD) (c : DD) (Q : VK), SB W G H → RpA W.K W.cm G xs as → g z as = some c →
  (∀ v G' H', Ext none G H G' H' → SB W G' H' → Rp W.K W.cm G' v c → Q v H') → r (.str z) xs H Q
def dM0 (g : Str → List DD → Option DD) (o : DE) : DE := fun ρ τ => (o ρ τ).bind fun x τ1 => match x with
  | .str z => R.of τ1 (g z [])
  | _ => .no
def dM1 (g : Str → List DD → Option DD) (o a : DE) : DE := fun ρ τ => (o ρ τ).bind fun x τ1 => match x with
  | .str z => (a ρ τ1).bind fun y τ2 => R.of τ2 (g z [y])
  | _ => .no
def dMs (g : Str → List DD → Option DD) (o : DE) (a : DA) : DE := fun ρ τ => (o ρ τ).bind fun x τ1 => match x with
  | .str z => (a ρ τ1).bind fun y τ2 => R.of τ2 (g z y)
  | _ => .no
theorem dn_m1 {r : V → List V → Hp → VK → Prop} {g : Str → List DD → Option DD} (h : MtD W r g) (ha : Dn W Wx ta δa) (hb : Dn W Wx tb δb) : Dn W Wx (tM1 r ta tb) (dM1 g δa δb) := fun tp G H σ ρ τ Q E P =>
  ha _ _ _ _ _ _ _ E (P.bind fun a τ1 x G1 H1 e1 E1 r1 P1 => by
    cases r1 <;> first | exact P1.elim | skip
    refine ⟨⟨_, rfl⟩, hb _ _ _ _ _ _ _ E1 (Pg.bind P1 fun b τ2 y G2 H2 e2 E2 r2 P2 => ?_)⟩
    obtain ⟨c, hc, P3⟩ := P2.of
    exact h G2 H2 _ [y] [b] c Q E2.g (.cons r2 .nil) hc fun v G3 H3 e3 g3 r3 => P3 v G3 H3 e3.weak (E2.grow e3 g3) r3)
def m0 (g : Str → Option DD) : Str → List DD → Option DD
  | z, [] => g z
  | _, _ => none
def m1S (g : Str → Str → Option DD) : Str → List DD → Option DD
  | z, [.str y] => g z y
  | _, _ => none
def m1I (g : Str → Int → Option DD) : Str → List DD → Option DD
  | z, [.int y] => g z y
  | _, _ => none
theorem ifs {α : Type} {p : Prop} [Decidable p] {a c : α} (h : (if p then some a else none) = some c) : p ∧ a = c := by
  split at h
  · rename_i q; exact ⟨q, Option.some.inj h⟩
  · cases h
def gJoin (z : Str) : List DD → Option DD
  | [d] => match (items? d).bind strs? with
    | some ys => if (ys.map (·.length)).sum + ys.length * z.length ≤ 16777216 then some (.str (Txt.join z ys)) else none
    | none => none
  | _ => none
theorem md_join : MtD W (rJoinK W.K) gJoin := by
  intro G H z xs as c Q s ra e k
  unfold gJoin at e
  split at e
  · rename_i d
    cases ra with | cons r rs =>
    cases rs
    split at e
    · rename_i ys h1
      obtain ⟨h, rfl⟩ := ifs e
      obtain ⟨ds, h3, h4⟩ := Option.bind_eq_some_iff.mp h1
      cases strs?_eq h4
      cases r <;> first | (cases h3; done) | skip
      · rename_i q r
        cases h3
        exact ⟨z, _, ys, rfl, rfl, .inl (by rw [← r.strs_of]; exact SqL.of (s _ _ q)), h, k _ G H ext_n s (.str _)⟩
      · rename_i q r
        cases h3
        exact ⟨z, _, ys, rfl, rfl, .inr (by rw [← r.strs_of]; exact SqT.of (s _ _ q)), h, k _ G H ext_n s (.str _)⟩
      · rename_i q _ r
        cases h3
        exact ⟨z, _, ys, rfl, rfl, .inr (by rw [← r.strs_of]; exact .inl (.inr ⟨_, s _ _ q⟩)), h, k _ G H ext_n s (.str _)⟩
    · cases e
  · cases e
def gFmt : DD → Option DD
  | .str y => if y.length ≤ sizeLine then some (.str y) else none
  | .int i => if i.natAbs.log2 < 1920 then some (.str (toString i)) else none
  | _ => none
theorem dn_fmt (ha : Dn W Wx ta δa) : Dn W Wx (tFmt ta) (dUn gFmt δa) := fun tp G H σ ρ τ Q E P =>
  ha _ _ _ _ _ _ _ E (P.bind fun a τ1 x G1 H1 e1 E1 r1 P1 => by
    obtain ⟨c, hc, P2⟩ := P1.of
    cases r1 <;> first | (cases hc; done) | skip
    · obtain ⟨h, rfl⟩ := ifs hc
      exact .inr ⟨_, rfl, h, P2 _ _ _ Ext.refl E1 (.str _)⟩
    · obtain ⟨h, rfl⟩ := ifs hc
      exact .inl ⟨_, rfl, h, P2 _ _ _ Ext.refl E1 (.str _)⟩)
def dJs : List DE → Str → DE
  | [], acc => fun _ τ => .ok (.str acc) τ
  | d :: ds, acc => fun ρ τ => (d ρ τ).bind fun x τ1 => match x with
    | .str y => if (acc ++ y).length ≤ sizeLine then dJs ds (acc ++ y) ρ τ1 else .no
    | _ => .no
inductive DnL (W : Wp) (Wx : L2.St → XK) : List TE → List DE → Prop
  | nil : DnL W Wx [] []
  | cons {t : TE} {δ : DE} {ts : List TE} {δs : List DE} : Dn W Wx t δ → DnL W Wx ts δs → DnL W Wx (t :: ts) (δ :: δs)
theorem dn_js {ts : List TE} {δs : List DE} (h : DnL W Wx ts δs) : ∀ acc, Dn W Wx (fun σ H Q => tJs ts acc σ H fun out H1 => Q (.str out) H1) (dJs δs acc) := by
  induction h with
  | nil => exact fun acc tp G H σ ρ τ Q E P => P _ G H Ext.refl E (.str _)
  | cons hd _ ih =>
    exact fun acc tp G H σ ρ τ Q E P => hd _ _ _ _ _ _ _ E (P.bind fun a τ1 x G1 H1 e1 E1 r1 P1 => by
      cases r1 <;> first | exact P1.elim | skip
      rename_i y
      by_cases hh : (acc ++ y).length ≤ sizeLine
      · refine ⟨y, rfl, hh, ih _ _ _ _ _ _ _ _ E1 ?_⟩
        simp only [if_pos hh] at P1
        exact P1
      · simp only [if_neg hh] at P1
        exact P1.elim)
theorem dn_joined {ts : List TE} {δs : List DE} (h : DnL W Wx ts δs) : Dn W Wx (fun σ H Q => tJs ts Str.empty σ H fun out H1 => Q (.str out) H1) (dJs δs Str.empty) := dn_js h _
structure ItR (W : Wp) (G : GH) (J : It) (ds : List DD) : Prop where
  go : ∀ i H, SB W G H → i < ds.length → J.go i H
  stop : ∀ H, SB W G H → J.stop ds.length H
  yld : ∀ i d Gc H x H', GS G Gc → SB W Gc H → ds[i]? = some d → J.yld i H x H' → ∃ G', Ext none Gc H G' H' ∧ SB W G' H' ∧ Rp W.K W.cm G' x d
abbrev rI' (W : Wp) : Option Addr → GH → It → List DD → Prop := fun _ G J ds => ItR W G J ds
abbrev DI := PEnv → TS' → R (List DD)
abbrev DnI (W : Wp) (Wx : L2.St → XK) (t : TI) (δ : DI) : Prop := DnG W Wx (rI' W) t δ
theorem ItR.mono {G G' : GH} {J : It} {ds : List DD} (h : ItR W G J ds) (s : GS G G') : ItR W G' J ds :=
  ⟨fun i H s' => h.go i H (s.sb s'), fun H s' => h.stop H (s.sb s'), fun i d Gc H x H' s' => h.yld i d Gc H x H' (s.trans s')⟩
theorem ItR.list {G : GH} {a : Addr} {xs : List V} {ds : List DD} (h : G a = some (.lst xs)) (r : RpA W.K W.cm G xs ds) : ItR W G (Itl W.K a) ds := by
  have w := walk_list (K := W.K) (a := a) (xs := xs)
  rw [r.length] at w
  refine ⟨fun i H s hi => w.goes i H hi (SqL.of (s _ _ h)), fun H s => w.stops H (SqL.of (s _ _ h)), fun i d Gc H x H' s s' hd y => ?_⟩
  obtain ⟨v, e, rv⟩ := r.get hd
  obtain ⟨rfl, e'⟩ := w.yields i H x H' (List.getElem?_eq_some_iff.mp hd).1 (SqL.of (s' _ _ (s _ _ h))) y
  rw [e] at e'
  cases e'
  exact ⟨Gc, ext_n, s', rv.mono s⟩
theorem ItR.tupS {G : GH} {a : Addr} {xs : List V} {ds : List DD} (h : SqT W.K G.hp a xs) (r : RpA W.K W.cm G xs ds) : ItR W G (Itt W.K a) ds := by
  have w := walk_tup (K := W.K) (a := a) (xs := xs)
  rw [r.length] at w
  refine ⟨fun i H s hi => w.goes i H hi (Same.tupq s.s h), fun H s => w.stops H (Same.tupq s.s h), fun i d Gc H x H' s s' hd y => ?_⟩
  obtain ⟨v, e, rv⟩ := r.get hd
  obtain ⟨rfl, e'⟩ := w.yields i H x H' (List.getElem?_eq_some_iff.mp hd).1 (Same.tupq s'.s (Same.tupq s.s h)) y
  rw [e] at e'
  cases e'
  exact ⟨Gc, ext_n, s', rv.mono s⟩
theorem ItR.tup {G : GH} {a : Addr} {xs : List V} {ds : List DD} (h : G a = some (.tup xs)) (r : RpA W.K W.cm G xs ds) : ItR W G (Itt W.K a) ds := ItR.tupS (SqT.of h) r
def rangeD (lo : Int) (n : Nat) : List DD := (List.range n).map fun (i : Nat) => DD.int (lo + i)
theorem rangeD_length (lo : Int) (n : Nat) : (rangeD lo n).length = n := by unfold rangeD; rw [List.length_map, List.length_range]
theorem ItR.range {G : GH} {lo : Int} {n : Nat} : ItR W G (Itr lo n) (rangeD lo n) := by
  have w := walk_range (lo := lo) (n := n)
  refine ⟨fun i H s hi => w.goes i H (by rw [rangeD_length] at hi; exact hi) trivial, fun H s => by rw [rangeD_length]; exact w.stops H trivial, fun i d Gc H x H' s s' hd y => ?_⟩
  have hi : i < n := by have := (List.getElem?_eq_some_iff.mp hd).1; rw [rangeD_length] at this; exact this
  obtain ⟨rfl, rfl⟩ := w.yields i H x H' hi trivial y
  unfold rangeD at hd
  rw [List.getElem?_map, List.getElem?_range hi] at hd
  cases hd
  exact ⟨Gc, ext_n, s', .int _⟩
theorem ItR.str {G : GH} {z : Str} : ItR W G (Its z) (signs z) := by
  have w := walk_str (z := z)
  have hl : (signs z).length = z.cps.size := by unfold signs; rw [List.length_map, Array.length_toList]
  refine ⟨fun i H s hi => w.goes i H (by rw [hl] at hi; exact hi) trivial, fun H s => by rw [hl]; exact w.stops H trivial, fun i d Gc H x H' s s' hd y => ?_⟩
  obtain ⟨rfl, c, hc, rfl⟩ := w.yields i H x H' (by rw [← hl]; exact (List.getElem?_eq_some_iff.mp hd).1) trivial y
  unfold signs at hd
  rw [List.getElem?_map, Array.getElem?_toList, hc] at hd
  cases hd
  exact ⟨Gc, ext_n, s', .str _⟩
def dIList (a : DE) : DI := fun ρ τ => (a ρ τ).bind fun x τ1 => match x with
  | .lst ds => .ok ds τ1
  | _ => .no
def dITup (a : DE) : DI := fun ρ τ => (a ρ τ).bind fun x τ1 => match x with
  | .tup ds => .ok ds τ1
  | .tux ds => .ok ds τ1
  | _ => .no
def dIStr (a : DE) : DI := fun ρ τ => (a ρ τ).bind fun x τ1 => match x with
  | .str z => .ok (signs z) τ1
  | _ => .no
def dIR1 (a : DA) : DI := fun ρ τ => (a ρ τ).bind fun x τ1 => match x with
  | [.int j] => if -(2 ^ 62) ≤ j ∧ j < 2 ^ 62 then .ok (rangeD 0 j.toNat) τ1 else .no
  | _ => .no
def dIR2 (a : DA) : DI := fun ρ τ => (a ρ τ).bind fun x τ1 => match x with
  | [.int i, .int j] => if -(2 ^ 62) ≤ i ∧ i < 2 ^ 62 ∧ -(2 ^ 62) ≤ j ∧ j < 2 ^ 62 then .ok (rangeD i (j - i).toNat) τ1 else .no
  | _ => .no
theorem di_list (ha : Dn W Wx ta δa) : DnI W Wx (iList W.K ta) (dIList δa) := fun tp G H σ ρ τ Q E P =>
  ha _ _ _ _ _ _ _ E (P.bind fun a τ1 x G1 H1 e1 E1 r1 P1 => by
    cases r1 <;> first | exact P1.elim | skip
    rename_i h r
    exact ⟨_, rfl, ⟨_, SqL.of (E1.g _ _ h)⟩, P1 _ G1 H1 Ext.refl E1 (ItR.list h r)⟩)
theorem di_tup (ha : Dn W Wx ta δa) : DnI W Wx (iTup W.K ta) (dITup δa) := fun tp G H σ ρ τ Q E P =>
  ha _ _ _ _ _ _ _ E (P.bind fun a τ1 x G1 H1 e1 E1 r1 P1 => by
    cases r1 <;> first | exact P1.elim | skip
    · rename_i h r
      exact ⟨_, rfl, ⟨_, SqT.of (E1.g _ _ h)⟩, P1 _ G1 H1 Ext.refl E1 (ItR.tup h r)⟩
    · rename_i h _ r
      exact ⟨_, rfl, ⟨_, .inl (.inr ⟨_, E1.g _ _ h⟩)⟩, P1 _ G1 H1 Ext.refl E1 (ItR.tupS (.inl (.inr ⟨_, h⟩)) r)⟩)
theorem di_range1 (hr : DnA W Wx tr δr) : DnI W Wx (iRng1 tr) (dIR1 δr) := fun tp G H σ ρ τ Q E P =>
  hr _ _ _ _ _ _ _ E (P.bind fun a τ1 x G1 H1 e1 E1 r1 P1 => by
    split at P1
    · rename_i j
      by_cases h : -(2 ^ 62) ≤ j ∧ j < 2 ^ 62
      · rw [if_pos h] at P1
        cases r1 with | cons r rs =>
        cases rs
        exact ⟨j, by rw [r.int_of], h.1, h.2, P1 _ G1 H1 Ext.refl E1 ItR.range⟩
      · rw [if_neg h] at P1
        exact P1.elim
    · exact P1.elim)
/-- pairs -/
theorem ItR.pair {G : GH} {J : It} {n : Nat} {Gp : Hp → Prop} {f g : Nat → Option V} {ds : List DD} (w : Walk J n Gp (YPair f g)) (hG : ∀ H, SB W G H → Gp H) (hn : ds.length = n)
    (hd : ∀ i d, ds[i]? = some d → ∀ x y, f i = some x → g i = some y → ∃ a b, d = .tup [a, b] ∧ Rp W.K W.cm G x a ∧ Rp W.K W.cm G y b) : ItR W G J ds := by
  refine ⟨fun i H s hi => w.goes i H (by rw [← hn]; exact hi) (hG H s), fun H s => by rw [hn]; exact w.stops H (hG H s), fun i d Gc H x H' s s' hi y => ?_⟩
  obtain ⟨T, u, v, rfl, hT, rfl, e1, e2⟩ := w.yields i H x H' (by rw [← hn]; exact (List.getElem?_eq_some_iff.mp hi).1) (hG H (s.sb s')) y
  obtain ⟨a, b, rfl, ra, rb⟩ := hd i d hi u v e1 e2
  exact ⟨_, Ext.new hT s', s'.both hT, rp_newT (s'.free hT) (.cons (ra.mono s) (.cons (rb.mono s) .nil))⟩
def enumD (ds : List DD) : List DD := ds.mapIdx fun i d => DD.tup [.int (i : Nat), d]
def dIEnum (a : DA) : DI := fun ρ τ => (a ρ τ).bind fun x τ1 => match x with
  | [.lst ds] => .ok (enumD ds) τ1
  | _ => .no
def zipD (ds es : List DD) : List DD := List.zipWith (fun a b => DD.tup [a, b]) ds es
def dIZip (a : DA) : DI := fun ρ τ => (a ρ τ).bind fun x τ1 => match x with
  | [.lst ds, .lst es] => .ok (zipD ds es) τ1
  | _ => .no
def dIRev (a : DA) : DI := fun ρ τ => (a ρ τ).bind fun x τ1 => match x with
  | [.lst ds] => .ok ds.reverse τ1
  | _ => .no
end
end Np
set_option Elab.async false
set_option linter.all false
set_option maxRecDepth 100000
set_option maxHeartbeats 4000000
namespace Np
open PySem PySem.Spec PyProof.Rows L2
inductive Tg where
  | nm (i : Nat) | tp (ts : List Tg)
mutual
def tgG (K : PySem.W.Frag) : Tg → TG
  | .nm i => gName i
  | .tp ts => gTup K ts.length (tgGs K ts)
def tgGs (K : PySem.W.Frag) : List Tg → TGs
  | [] => gNil
  | t :: ts => gCons (tgG K t) (tgGs K ts)
end
mutual
def tgF : Tg → DD → PEnv → Option PEnv
  | .nm i, d, ρ => some (ρ.set i (some (.fr d)))
  | .tp ts, .tup ds, ρ => tgFs ts ds ρ
  | _, _, _ => none
def tgFs : List Tg → List DD → PEnv → Option PEnv
  | [], [], ρ => some ρ
  | t :: ts, d :: ds, ρ => match tgF t d ρ with
    | some ρ1 => tgFs ts ds ρ1
    | none => none
  | _, _, _ => none
end
mutual
def tgS : Tg → List Nat
  | .nm i => [i]
  | .tp ts => tgSs ts
def tgSs : List Tg → List Nat
  | [] => []
  | t :: ts => tgS t ++ tgSs ts
end
/-- what is owned then was owned -/
def Sub (σ : L2.St) (ρ : PEnv) (σ' : L2.St) (ρ' : PEnv) : Prop := ∀ (j : Nat) (c : OC) (a : Addr), ρ'[j]? = some (some (PV.ow c)) → σ'[j]? = some (some (V.ref a)) → ρ[j]? = some (some (PV.ow c)) ∧ σ[j]? = some (some (V.ref a))
theorem Sub.refl {σ : L2.St} {ρ : PEnv} : Sub σ ρ σ ρ := fun _ _ _ a b => ⟨a, b⟩
theorem Sub.trans {σ σ1 σ2 : L2.St} {ρ ρ1 ρ2 : PEnv} (a : Sub σ ρ σ1 ρ1) (b : Sub σ1 ρ1 σ2 ρ2) : Sub σ ρ σ2 ρ2 := fun j c p h1 h2 => let ⟨x, y⟩ := b j c p h1 h2; a j c p x y
theorem set_get {α : Type} {l : List (Option α)} {i j : Nat} {x : Option α} {y : α} (h : (l.set i x)[j]? = some (some y)) (hx : x ≠ some y) : j ≠ i ∧ l[j]? = some (some y) := by
  by_cases e : i = j
  · subst e
    by_cases hl : i < l.length
    · rw [List.getElem?_set_self hl] at h
      exact absurd (Option.some.inj h) hx
    · rw [List.getElem?_eq_none (by rw [List.length_set]; omega)] at h
      cases h
  · rw [List.getElem?_set_ne e] at h
    exact ⟨fun z => e z.symm, h⟩
theorem Sub.set {σ : L2.St} {ρ : PEnv} {i : Nat} {v : Option V} {p : Option PV} (hp : ∀ c, p ≠ some (.ow c)) : Sub σ ρ (σ.set i v) (ρ.set i p) := fun j c a h1 h2 => by
  obtain ⟨n, h3⟩ := set_get h1 (hp c)
  rw [List.getElem?_set_ne (fun z => n z.symm)] at h2
  exact ⟨h3, h2⟩
section
variable {W : Wp} {Wx : L2.St → XK} {tp : Option Addr} {G : GH} {H : Hp} {σ : L2.St} {ρ : PEnv} {τ : TS'}
theorem EnvV.setS {i : Nat} {v : Option V} {p : Option PV} (E : EnvV W tp G H σ ρ τ) (r : SlotR W tp G H v p) (hp : ∀ c, p ≠ some (.ow c)) : EnvV W tp G H (σ.set i v) (ρ.set i p) τ := by
  refine ⟨E.g, Paired.setL r i E.s, fun j k a b c c' F F' h1 h2 h3 h4 w w' => ?_, E.t⟩
  obtain ⟨a1, a2⟩ := Sub.set (σ := σ) (v := v) hp j c a h1 h3
  obtain ⟨b1, b2⟩ := Sub.set (σ := σ) (v := v) hp k c' b h2 h4
  exact E.d j k a b c c' F F' a1 b1 a2 b2 w w'
/-- no slot owns p -/
def FreeP (W : Wp) (G : GH) (H : Hp) (σ : L2.St) (ρ : PEnv) (p : Addr) : Prop := ∀ (j : Nat) (c : OC) (a : Addr) (F : List Addr), ρ[j]? = some (some (PV.ow c)) → σ[j]? = some (some (V.ref a)) → OwR W G H a c F → p ∉ F
theorem EnvV.noO {p : Addr} (E : EnvV W tp G H σ ρ τ) (n : H p = none) : FreeP W G H σ ρ p := fun j c a F h1 h2 w hp => w.at p hp n
theorem FreeP.ext {p : Addr} {G' : GH} {H' : Hp} (f : FreeP W G H σ ρ p) (E : EnvV W tp G H σ ρ τ) (e : Ext tp G H G' H') : FreeP W G' H' σ ρ p := fun j c a F h1 h2 w => f j c a F h1 h2 (E.backE e h1 h2 w)
theorem EnvV.setF {i : Nat} {v : V} {d : DD} (E : EnvV W tp G H σ ρ τ) (r : Rp W.K W.cm G v d) : EnvV W tp G H (σ.set i (some v)) (ρ.set i (some (.fr d))) τ := E.setS r fun _ z => by cases z
theorem EnvV.setN {i : Nat} (E : EnvV W tp G H σ ρ τ) : EnvV W tp G H (σ.set i none) (ρ.set i none) τ := E.setS (v := none) (p := none) trivial fun _ z => by cases z
def wipeP (ρ : PEnv) : List Nat → PEnv
  | [] => ρ
  | v :: vs => (wipeP ρ vs).set v none
theorem EnvV.wipe (E : EnvV W tp G H σ ρ τ) : ∀ vs, EnvV W tp G H (L2.wipe σ vs) (wipeP ρ vs) τ
  | [] => E
  | v :: vs => (E.wipe vs).setN
theorem wipe_set {i : Nat} {x : Option V} : ∀ {vs : List Nat} {σ : L2.St}, i ∈ vs → L2.wipe (σ.set i x) vs = L2.wipe σ vs
  | v :: vs, σ, h => by
    unfold L2.wipe
    by_cases hv : i ∈ vs
    · rw [wipe_set hv]
    · have e : i = v := by
        rcases List.mem_cons.mp h with z | z
        · exact z
        · exact absurd z hv
      subst e
      have : ∀ (vs : List Nat), i ∉ vs → L2.wipe (σ.set i x) vs = (L2.wipe σ vs).set i x := by
        intro vs
        induction vs with
        | nil => intro _; rfl
        | cons w ws ih =>
          intro hn
          unfold L2.wipe
          rw [ih fun z => hn (List.mem_cons_of_mem _ z), List.set_comm]
          exact fun z => hn (by rw [z]; exact List.mem_cons_self)
      rw [this vs hv, List.set_set]
mutual
theorem tg_run : ∀ (t : Tg) {σ : L2.St} {ρ ρ' : PEnv} {x : V} {d : DD} {Kc : L2.St → Hp → Prop}, EnvV W tp G H σ ρ τ → Rp W.K W.cm G x d → tgF t d ρ = some ρ' →
    (∀ σ', EnvV W tp G H σ' ρ' τ → Sub σ ρ σ' ρ' → (∀ js, (∀ i ∈ tgS t, i ∈ js) → L2.wipe σ' js = L2.wipe σ js) → Kc σ' H) → tgG W.K t x σ H Kc
  | .nm i, σ, ρ, ρ', x, d, Kc, E, r, h, k => by
    rw [tgF] at h
    cases h
    rw [tgG]
    exact k _ (E.setF r) (Sub.set fun _ z => by cases z) fun js hj => wipe_set (hj i (by rw [tgS]; exact List.mem_cons_self))
  | .tp ts, σ, ρ, ρ', x, d, Kc, E, r, h, k => by
    rw [tgG]
    cases d <;> first | (rw [tgF] at h <;> first | (cases h; done) | (intros; contradiction)) | skip
    rw [tgF] at h
    cases r with | tup e rs =>
    rename_i ds a xs
    have hl : xs.length = ts.length := by
      rw [rs.length]
      clear rs e k
      have : ∀ (ts : List Tg) (ds : List DD) (ρ ρ' : PEnv), tgFs ts ds ρ = some ρ' → ds.length = ts.length := by
        intro ts
        induction ts with
        | nil => intro ds ρ ρ' h; cases ds with
          | nil => rfl
          | cons d ds => rw [tgFs] at h <;> first | (cases h; done) | (intros; contradiction)
        | cons t ts ih =>
          intro ds ρ ρ' h
          cases ds with
          | nil => rw [tgFs] at h <;> first | (cases h; done) | (intros; contradiction)
          | cons d ds =>
            rw [tgFs] at h
            split at h
            · exact congrArg Nat.succ (ih _ _ _ h)
            · cases h
      exact this _ _ _ _ h
    exact ⟨_, xs, rfl, SqT.of (E.g _ _ e), hl, tgs_run ts E rs h fun σ' E' s w => k σ' E' s fun js hj => w js (by rw [tgS] at hj; exact hj)⟩
theorem tgs_run : ∀ (ts : List Tg) {σ : L2.St} {ρ ρ' : PEnv} {xs : List V} {ds : List DD} {Kc : L2.St → Hp → Prop}, EnvV W tp G H σ ρ τ → RpA W.K W.cm G xs ds → tgFs ts ds ρ = some ρ' →
    (∀ σ', EnvV W tp G H σ' ρ' τ → Sub σ ρ σ' ρ' → (∀ js, (∀ i ∈ tgSs ts, i ∈ js) → L2.wipe σ' js = L2.wipe σ js) → Kc σ' H) → tgGs W.K ts xs σ H Kc
  | [], σ, ρ, ρ', xs, ds, Kc, E, r, h, k => by
    rw [tgGs]
    cases ds with
    | nil =>
      rw [tgFs] at h
      cases h
      cases r
      exact ⟨rfl, k _ E Sub.refl fun _ _ => rfl⟩
    | cons d ds => rw [tgFs] at h <;> first | (cases h; done) | (intros; contradiction)
  | t :: ts, σ, ρ, ρ', xs, ds, Kc, E, r, h, k => by
    rw [tgGs]
    cases ds with
    | nil => rw [tgFs] at h <;> first | (cases h; done) | (intros; contradiction)
    | cons d ds =>
      rw [tgFs] at h
      split at h
      · rename_i ρ1 h1
        cases r with | cons r rs =>
        refine ⟨_, _, rfl, tg_run t E r h1 fun σ1 E1 s1 w1 => tgs_run ts E1 rs h fun σ2 E2 s2 w2 => k σ2 E2 (s1.trans s2) fun js hj => ?_⟩
        rw [w2 js fun i hi => hj i (by rw [tgSs]; exact List.mem_append_right _ hi), w1 js fun i hi => hj i (by rw [tgSs]; exact List.mem_append_left _ hi)]
      · cases h
end
def R.nox {α : Type} : R α → R α
  | .ok a τ => .ok a τ
  | _ => .no
@[simp] theorem R.nox_ok {α : Type} (a : α) (τ : TS') : (R.ok a τ).nox = .ok a τ := id rfl
abbrev W0 : L2.St → XK := fun _ => E0
def lcL (t : Tg) (c : DT) (e : DE) (ρ : PEnv) : List DD → TS' → R (List DD)
  | [], τ => .ok [] τ
  | d :: ds, τ => match tgF t d ρ with
    | none => .no
    | some ρ1 => (c ρ1 τ).nox.bind fun b τ1 => if b = true then (e ρ1 τ1).nox.bind fun y τ2 => (lcL t c e ρ ds τ2).bind fun ys τ3 => .ok (y :: ys) τ3 else lcL t c e ρ ds τ1
def dLc (i : DI) (t : Tg) (c : DT) (e : DE) (vs : List Nat) : DE := fun ρ τ => (i ρ τ).bind fun ds τ1 => if ds.length ≤ sizeLine then (lcL t c e (wipeP ρ vs) ds τ1).bind fun ys τ2 => .ok (.lst ys) τ2 else .no
def dYes : DT := fun _ τ => .ok true τ
theorem dt_yes : DnT W Wx tYes dYes := fun tp G H σ ρ τ Q E P => P true G H Ext.refl E rfl
theorem R.nox_eq {α β : Type} {r : R α} {f : α → TS' → R β} {b : β} {τ' : TS'} (h : r.nox.bind f = .ok b τ') : ∃ a τ1, r = .ok a τ1 ∧ f a τ1 = .ok b τ' := by
  cases r with
  | ok a τ1 => exact ⟨a, τ1, rfl, h⟩
  | ex x τ1 => cases h
  | no => cases h
theorem R.bind_eq {α β : Type} {r : R α} {f : α → TS' → R β} {b : β} {τ' : TS'} (h : r.bind f = .ok b τ') : ∃ a τ1, r = .ok a τ1 ∧ f a τ1 = .ok b τ' := by
  cases r with
  | ok a τ1 => exact ⟨a, τ1, rfl, h⟩
  | ex x τ1 => cases h
  | no => cases h
theorem lcL_inv {t : Tg} {c : DT} {e : DE} {ρ : PEnv} {d : DD} {ds ys : List DD} {τ τ' : TS'} (h : lcL t c e ρ (d :: ds) τ = .ok ys τ') : ∃ ρ1 b τ1, tgF t d ρ = some ρ1 ∧ c ρ1 τ = .ok b τ1 ∧
    ((b = true ∧ ∃ y τ2 zs, e ρ1 τ1 = .ok y τ2 ∧ lcL t c e ρ ds τ2 = .ok zs τ' ∧ ys = y :: zs) ∨ (b = false ∧ lcL t c e ρ ds τ1 = .ok ys τ')) := by
  rw [lcL] at h
  split at h
  · cases h
  · rename_i ρ1 h1
    obtain ⟨b, τ1, h2, h3⟩ := R.nox_eq h
    refine ⟨ρ1, b, τ1, h1, h2, ?_⟩
    cases b with
    | false => exact .inr ⟨rfl, h3⟩
    | true =>
      obtain ⟨y, τ2, h4, h5⟩ := R.nox_eq h3
      obtain ⟨zs, τ3, h6, h7⟩ := R.bind_eq h5
      cases h7
      exact .inl ⟨rfl, y, τ2, zs, h4, h6, rfl⟩
theorem Ext.mut {G' : GH} {H' : Hp} {p : Addr} {o : HO} (e : Ext tp G H G' H') (n : H p = none) : Ext tp G H G' (upd H' p o) :=
  ⟨e.g, fun q u nq t h => by rw [upd_ne (ne_of_none h n)]; exact e.h q u nq t h, e.f, fun q hq => by
    by_cases z : q = p
    · rw [z, upd_same]; simp
    · rw [upd_ne z]; exact e.x q hq, e.w, e.z⟩
/-- a thing that no slot has is changed -/
theorem EnvV.mutH {p : Addr} {o : HO} (E : EnvV W tp G H σ ρ τ) (g : G p = none) (nt : NoM tp G p) (pl : NT H p) (no : FreeP W G H σ ρ p) : EnvV W tp G (upd H p o) σ ρ τ := by
  have kp : ∀ {j : Nat} {c : OC} {a : Addr} {F : List Addr}, ρ[j]? = some (some (PV.ow c)) → σ[j]? = some (some (V.ref a)) → OwR W G H a c F → OwR W G (upd H p o) a c F := fun h1 h2 w => w.keep (GS.refl _) fun q hq u hu => by
    rw [upd_ne (fun z => no _ _ _ _ h1 h2 w (by rw [← z]; exact hq))]; exact hu
  refine ⟨E.g.put g pl, Paired.mapI E.s fun j v q hv hq h => ?_, fun i j a b c c' F F' h1 h2 h3 h4 w w' => ?_, E.t.put nt⟩
  · match v, q, h with
    | _, none, _ => trivial
    | some v, some (.fr d), h => exact h
    | some v, some (.ow c), ⟨a, F, r, w, gn⟩ =>
      subst r
      exact ⟨a, F, rfl, kp hq hv w, gn⟩
    | some v, some .tape, h => exact h
    | some v, some (.scr ns), h => exact h
    | some v, some (.fn x), h => exact h
    | some v, some .thk, ⟨f, c, q, g, a, b, s, n, h⟩ => exact ⟨f, c, q, g, a, b, s, n, by rw [upd_ne (code_ne h pl)]; exact h⟩
  · obtain ⟨F1, w1, _⟩ := E.own h1 h3
    obtain ⟨F2, w2, _⟩ := E.own h2 h4
    rw [w.uniq (kp h1 h3 w1), w'.uniq (kp h2 h4 w2)]
    exact E.d i j a b c c' F1 F2 h1 h2 h3 h4 w1 w2
theorem wipe_wipe {σ : L2.St} : ∀ {vs : List Nat}, L2.wipe (L2.wipe σ vs) vs = L2.wipe σ vs := by
  have : ∀ (us vs : List Nat), (∀ i ∈ us, i ∈ vs) → L2.wipe (L2.wipe σ us) vs = L2.wipe σ vs := by
    intro us
    induction us with
    | nil => intro vs _; rfl
    | cons u us ih =>
      intro vs h
      show L2.wipe ((L2.wipe σ us).set u none) vs = _
      rw [wipe_set (h u List.mem_cons_self), ih vs fun i hi => h i (List.mem_cons_of_mem _ hi)]
  exact fun {vs} => this vs vs fun _ h => h
theorem lc_run {J : It} {tt : TT} {te : TE} {vs : List Nat} {δc : DT} {δe : DE} {t : Tg} {ds ys : List DD} {τ1 τ' : TS'} {G1 : GH} {H1 : Hp} {D : Addr} {Qd : Hp → Prop} (hv : (tgS t).all (fun i => decide (i ∈ vs)) = true) (hc : DnT W W0 tt δc) (he : Dn W W0 te δe)
    (E1 : EnvV W tp G1 H1 σ ρ τ1) (it : ItR W G1 J ds) (hl : ds.length ≤ sizeLine) (hok : lcL t δc δe (wipeP ρ vs) ds τ1 = .ok ys τ') (nD : H1 D = none)
    (k : ∀ acc G' H', Ext tp G1 H1 G' H' → EnvV W tp G' H' σ ρ τ' → G' D = none → NoM tp G' D → H' D = some (.lst acc) → RpA W.K W.cm G' acc ys → Qd H') :
    ∃ W' : Nat → Nat → Hp → Prop, (∃ m, W' 0 m (upd H1 D (.lst []))) ∧ ∀ i m H, W' i m H →
      (J.stop i H ∧ Qd H) ∨ (J.go i H ∧ ∃ Nx : Hp → Prop, (∀ H', Nx H' → ∃ m', m' < m ∧ W' (i + 1) m' H') ∧ ∀ x H', J.yld i H x H' → tgG W.K t x (L2.wipe σ vs) H' fun σ2 H2 => L2.wipe σ2 vs = L2.wipe σ vs ∧ tt σ2 H2 fun b H3 =>
        if b = true then te σ2 H3 fun y H4 => ∃ acc, H4 D = some (.lst acc) ∧ acc.length < sizeLine ∧ Nx (upd H4 D (.lst (acc ++ [y]))) else Nx H3) := by
  have ndt := E1.noM nD
  have noD := E1.noO nD
  have w : Walk J ds.length (fun H => SB W G1 H) (fun i H x H' => ∀ d Gc, ds[i]? = some d → GS G1 Gc → SB W Gc H → ∃ G', Ext none Gc H G' H' ∧ SB W G' H' ∧ Rp W.K W.cm G' x d) :=
    ⟨fun i H hi s => it.go i H s hi, fun H s => it.stop H s, fun i H x H' hi s y d Gc hd s1 s2 => it.yld i d Gc H x H' s1 s2 hd y⟩
  refine lc_it w (fun i Hc => ∃ Gc τc acc done rest, Ext tp G1 H1 Gc Hc ∧ EnvV W tp Gc Hc σ ρ τc ∧ Gc D = none ∧ NoM tp Gc D ∧ Hc D = some (.lst acc) ∧ RpA W.K W.cm Gc acc done ∧ done.length ≤ i ∧
        lcL t δc δe (wipeP ρ vs) (ds.drop i) τc = .ok rest τ' ∧ ys = done ++ rest) ?_ (fun i Hc _ h => ?_) ?_ ?_
  · exact ⟨G1, τ1, [], [], ys, Ext.newH nD, E1.newH nD, E1.g.free nD, ndt, upd_same, .nil, Nat.le_refl _, hok, rfl⟩
  · obtain ⟨Gc, τc, acc, done, rest, ec, Ec, _⟩ := h
    exact ec.g.sb Ec.g
  · rintro i x Hc Hc' hi ⟨Gc, τc, acc, done, rest, ec, Ec, gD, nc, hD, ra, hdn, hr, hys⟩ y
    obtain ⟨d, hd⟩ : ∃ d, ds[i]? = some d := ⟨ds[i], List.getElem?_eq_getElem hi⟩
    have hdr : ds.drop i = d :: ds.drop (i + 1) := by
      obtain ⟨h1, h2⟩ := List.getElem?_eq_some_iff.mp hd
      rw [List.drop_eq_getElem_cons h1, h2]
    obtain ⟨Gd, ed, sd, rd⟩ := y d Gc hd ec.g Ec.g
    have Ed := Ec.grow ed sd
    rw [hdr] at hr
    obtain ⟨ρ1, b, τ2, hf, hcb, hcase⟩ := lcL_inv hr
    refine tg_run t (Ed.wipe vs) rd hf fun σ2 E2 s2 w2 => ⟨by rw [w2 vs fun i hi => of_decide_eq_true (List.all_eq_true.mp hv i hi)]; exact wipe_wipe, hc _ _ _ _ _ _ _ E2 ?_⟩
    rw [hcb]
    intro b' G3 H3 e3 E3 rb
    cases rb
    have E3' : EnvV W tp G3 H3 σ ρ τ2 := Ed.ext e3 E3.g E3.t
    have e03 : Ext tp G1 H1 G3 H3 := (ec.trans ed.weak).trans e3
    have nd : NoM tp Gd D := ed.weak.nom nc (by rw [hD]; simp)
    have hDd : Hc' D = some (.lst acc) := ed.h D _ NoM.none rfl hD
    have n3 : NoM tp G3 D := e3.nom nd (by rw [hDd]; simp)
    have hD3 : H3 D = some (.lst acc) := e3.h D _ nd rfl hDd
    have gD3 : G3 D = none := e3.f D nd ⟨_, hDd, rfl⟩ (ed.f D NoM.none ⟨_, hD, rfl⟩ gD)
    have ra3 := ra.mono (ed.g.trans e3.g)
    rcases hcase with ⟨rfl, y, τ4, zs, hy, hz, rfl⟩ | ⟨rfl, hz⟩
    · refine iteT (he _ _ _ _ _ _ _ E3 ?_)
      rw [hy]
      intro v G4 H4 e4 E4 ry
      have E4' : EnvV W tp G4 H4 σ ρ τ4 := E3'.ext e4 E4.g E4.t
      have gD4 : G4 D = none := e4.f D n3 ⟨_, hD3, rfl⟩ gD3
      have hD4 : H4 D = some (.lst acc) := e4.h D _ n3 rfl hD3
      have n4 : NoM tp G4 D := e4.nom n3 (by rw [hD3]; simp)
      refine ⟨acc, hD4, by rw [ra.length]; omega, G4, τ4, acc ++ [v], done ++ [y], zs, (e03.trans e4).mut nD, E4'.mutH gD4 n4 ⟨_, hD4, rfl⟩ (noD.ext E1 (e03.trans e4)), gD4, n4, upd_same, (ra3.mono e4.g).append (.cons ry .nil), by rw [List.length_append]; show _ + 1 ≤ _; omega, hz, by rw [hys, List.append_assoc]; rfl⟩
    · exact iteF ⟨G3, τ2, acc, done, rest, e03, E3', gD3, n3, hD3, ra3, by omega, hz, hys⟩
  · rintro Hc ⟨Gc, τc, acc, done, rest, ec, Ec, gD, nc, hD, ra, hdn, hr, hys⟩
    rw [List.drop_length] at hr
    cases hr
    rw [List.append_nil] at hys
    subst hys
    exact k acc Gc Hc ec Ec gD nc hD ra
theorem lcL_noex {t : Tg} {c : DT} {e : DE} {ρ : PEnv} {x : Ex} {τ' : TS'} : ∀ {ds : List DD} {τ : TS'}, lcL t c e ρ ds τ = .ex x τ' → False
  | [], _, h => by cases h
  | d :: ds, τ, h => by
    rw [lcL] at h
    split at h
    · cases h
    · rename_i ρ1 _
      cases hc : c ρ1 τ with
      | no => rw [hc] at h; cases h
      | ex y τy => rw [hc] at h; cases h
      | ok b τ1 =>
        rw [hc] at h
        cases b with
        | false => exact lcL_noex (ds := ds) h
        | true =>
          simp only [R.nox_ok, R.bind_ok, if_true] at h
          cases he : e ρ1 τ1 with
          | no => rw [he] at h; simp [R.nox] at h
          | ex y τy => rw [he] at h; simp [R.nox] at h
          | ok y τ2 =>
            rw [he] at h
            cases hl : lcL t c e ρ ds τ2 with
            | no => simp [hl] at h
            | ex z τz => exact lcL_noex hl
            | ok zs τ3 => simp [hl] at h
/-- a thing that no slot has stays from now on -/
theorem EnvV.freeze {p : Addr} {o : HO} (E : EnvV W tp G H σ ρ τ) (g : G p = none) (h : H p = some o) (ht : o.tb = false) (nt : NoM tp G p) (no : FreeP W G H σ ρ p) : EnvV W tp (G.upd p o) H σ ρ τ := by
  have s1 : GS G (G.upd p o) := GS.new g
  refine ⟨E.g.frz h ht, Paired.mapI E.s fun j v q hv hq' h => ?_, fun i j a b c c' F F' h1 h2 h3 h4 w w' => E.d i j a b c c' F F' h1 h2 h3 h4 (E.back s1 (fun _ _ _ h => h) h1 h3 w) (E.back s1 (fun _ _ _ h => h) h2 h4 w'), E.t.frz1 g nt⟩
  match v, q, h with
  | _, none, _ => trivial
  | some v, some (.fr d), h => exact Rp.mono s1 h
  | some v, some (.ow c), ⟨a, F, r, w, gn⟩ =>
    subst r
    exact ⟨a, F, rfl, w.keep s1 fun _ _ o h => h, fun q hq => ⟨by show upd G.hp p o q = none; rw [upd_ne (fun z => no j c a F hq' hv w (by rw [← z]; exact hq))]; exact (gn q hq).1, (gn q hq).2⟩⟩
  | some v, some .tape, h => exact h
  | some v, some (.scr ns), ⟨a, r, q⟩ => exact ⟨a, r, s1.seq q⟩
  | some v, some (.fn x), h => exact h
  | some v, some .thk, ⟨f, c, q, g, a, b, s, n, h⟩ => exact ⟨f, c, q, g, a, b, s.trans s1, n, h⟩
theorem Ext.frzN {G' : GH} {H' : Hp} {p : Addr} {o : HO} (e : Ext tp G H G' H') (n : H p = none) (g : G' p = none) : Ext tp G H (G'.upd p o) H' :=
  ⟨e.g.trans (GS.new g), e.h, fun q np hp hg => by
    show upd G'.hp p o q = none
    rw [upd_ne (fun z => hp.ne (by rw [z]; exact n))]
    exact e.f q np hp hg, e.x, e.w, e.z⟩
theorem dn_lc {wi : TI} {tt : TT} {te : TE} {vs : List Nat} {δi : DI} {δc : DT} {δe : DE} {t : Tg} (hv : (tgS t).all (fun i => decide (i ∈ vs)) = true) (hi : DnI W Wx wi δi) (hc : DnT W W0 tt δc) (he : Dn W W0 te δe) :
    Dn W Wx (tLc wi (tgG W.K t) tt te vs) (dLc δi t δc δe vs) := fun tp G H σ ρ τ Q E P =>
  hi _ _ _ _ _ _ _ E (P.bind fun ds τ1 J G1 H1 e1 E1 it P1 D nD => by
    by_cases hl : ds.length ≤ sizeLine
    · rw [if_pos hl] at P1
      cases hok : lcL t δc δe (wipeP ρ vs) ds τ1 with
      | no => rw [hok] at P1; exact P1.elim
      | ex x τx => exact (lcL_noex hok).elim
      | ok ys τ' =>
        rw [hok] at P1
        refine lc_run hv hc he E1 it hl hok nD fun acc G' H' e E' gD nD' hD ra => ?_
        refine P1 (.ref D) (G'.upd D (.lst acc)) H' (e.frzN nD gD) (E'.freeze gD hD rfl nD' ((E1.noO nD).ext E1 e)) (rp_newL gD ra)
    · rw [if_neg hl] at P1
      exact P1.elim)
end
end Np
set_option Elab.async false
set_option linter.all false
set_option maxRecDepth 100000
set_option maxHeartbeats 4000000
namespace Np
open PySem PySem.Spec PyProof.Rows L2
inductive Ct where
  | nx (ρ : PEnv) | rt (d : DD) | bk (ρ : PEnv) | ct (ρ : PEnv) | xc (x : Ex) (ρ : PEnv) | ro (c : OC)
abbrev DS := PEnv → TS' → R Ct
structure EnvS (W : Wp) (tp0 : Option Addr) (G0 : GH) (H0 : Hp) (tp : Option Addr) (G : GH) (H : Hp) (σ : L2.St) (ρ : PEnv) (τ : TS') : Prop where
  v : EnvV W tp G H σ ρ τ
  e : Ext tp0 G0 H0 G H
  o : ∀ (j : Nat) (c : OC) (a : Addr) (F : List Addr), ρ[j]? = some (some (PV.ow c)) → σ[j]? = some (some (V.ref a)) → OwR W G H a c F → ∀ p ∈ F, H0 p = none
  t : tp = tp0 ∨ (tp0 = none ∧ False)
section
variable (W : Wp) (Wx : L2.St → XK)
def Ps (tp0 : Option Addr) (G0 : GH) (H0 : Hp) (G : GH) (D : Ends) : R Ct → Prop
  | .ok (.nx ρ) τ => ∀ tp' G' H' σ', GS G G' → EnvS W tp0 G0 H0 tp' G' H' σ' ρ τ → D.nx σ' H'
  | .ok (.bk ρ) τ => ∀ tp' G' H' σ', GS G G' → EnvS W tp0 G0 H0 tp' G' H' σ' ρ τ → D.bk σ' H'
  | .ok (.ct ρ) τ => ∀ tp' G' H' σ', GS G G' → EnvS W tp0 G0 H0 tp' G' H' σ' ρ τ → D.ct σ' H'
  | .ok (.rt d) τ => ∀ v tp' G' H', Ext tp0 G0 H0 G' H' → SB W G' H' → TapeO W G' H' tp' τ → (tp' = tp0 ∨ tp0 = none) → Rp W.K W.cm G' v d → D.rt v H'
  | .ok (.ro c) τ => ∀ p F tp' G' H', Ext tp0 G0 H0 G' H' → SB W G' H' → TapeO W G' H' tp' τ → (tp' = tp0 ∨ tp0 = none) → OwR W G' H' p c F → (∀ q ∈ F, H0 q = none ∧ G' q = none ∧ NoM tp' G' q) → D.rt (.ref p) H'
  | .ok (.xc x ρ) τ => ∀ d tp' G' H' σ', GS G G' → EnvS W tp0 G0 H0 tp' G' H' σ' ρ τ → ExR W G' H' x d → Wx σ' (.ref (W.cm x.cls)) d H'
  | _ => False
def DnS (t : L2.TS) (δ : DS) : Prop := ∀ tp0 G0 H0 tp G H σ ρ τ D, EnvS W tp0 G0 H0 tp G H σ ρ τ → Ps W Wx tp0 G0 H0 G D (δ ρ τ) → t D σ H
end
def stE {α : Type} (r : R α) (ρ : PEnv) (f : α → TS' → R Ct) : R Ct := match r with
  | .ok a τ => f a τ
  | .ex x τ => .ok (.xc x ρ) τ
  | .no => .no
@[simp] theorem stE_ok {α : Type} (a : α) (τ : TS') (ρ : PEnv) (f : α → TS' → R Ct) : stE (.ok a τ) ρ f = f a τ := id rfl
@[simp] theorem stE_ex {α : Type} (a : Ex) (τ : TS') (ρ : PEnv) (f : α → TS' → R Ct) : stE (.ex a τ) ρ f = .ok (.xc a ρ) τ := id rfl
@[simp] theorem stE_no {α : Type} (ρ : PEnv) (f : α → TS' → R Ct) : stE (.no) ρ f = .no := id rfl
section
variable {W : Wp} {Wx : L2.St → XK} {tp0 tp tp' : Option Addr} {G0 G G' : GH} {H0 H H' : Hp} {σ : L2.St} {ρ : PEnv} {τ τ' : TS'} {D : Ends}
theorem Ext.comp (e : Ext tp0 G0 H0 G H) (t : tp = tp0 ∨ (tp0 = none ∧ False)) (e' : Ext tp G H G' H') : Ext tp0 G0 H0 G' H' := by
  rcases t with rfl | ⟨_, h⟩
  · exact e.trans e'
  · exact h.elim
theorem EnvS.step (E : EnvS W tp0 G0 H0 tp G H σ ρ τ) (e : Ext tp G H G' H') (E' : EnvV W tp G' H' σ ρ τ') : EnvS W tp0 G0 H0 tp G' H' σ ρ τ' :=
  ⟨E', E.e.comp E.t e, fun j c a F h1 h2 w => E.o j c a F h1 h2 (E.v.backE e h1 h2 w), E.t⟩
theorem EnvS.sub {σ' : L2.St} {ρ' : PEnv} (E : EnvS W tp0 G0 H0 tp G H σ ρ τ) (E' : EnvV W tp G H σ' ρ' τ) (s : Sub σ ρ σ' ρ') : EnvS W tp0 G0 H0 tp G H σ' ρ' τ :=
  ⟨E', E.e, fun j c a F h1 h2 w => let ⟨x, y⟩ := s j c a h1 h2; E.o j c a F x y w, E.t⟩
theorem Ps.shift {r : R Ct} (P : Ps W Wx tp0 G0 H0 G D r) (s : GS G G') : Ps W Wx tp0 G0 H0 G' D r := by
  match r, P with
  | .ok (.nx ρ) τ, P => exact fun tp' G2 H' σ' s' => P tp' G2 H' σ' (s.trans s')
  | .ok (.bk ρ) τ, P => exact fun tp' G2 H' σ' s' => P tp' G2 H' σ' (s.trans s')
  | .ok (.ct ρ) τ, P => exact fun tp' G2 H' σ' s' => P tp' G2 H' σ' (s.trans s')
  | .ok (.rt d) τ, P => exact P
  | .ok (.ro d) τ, P => exact P
  | .ok (.xc x ρ) τ, P => exact fun d tp' G2 H' σ' s' => P d tp' G2 H' σ' (s.trans s')
  | .ex x τ, P => exact P.elim
  | .no, P => exact P.elim
theorem Ps.bind {α β : Type} {rel : Option Addr → GH → β → α → Prop} {Q' : β → Hp → Prop} {r : R α} {f : α → TS' → R Ct} (P : Ps W Wx tp0 G0 H0 G D (stE r ρ f)) (E : EnvS W tp0 G0 H0 tp G H σ ρ τ)
    (k : ∀ a τ1 b G1 H1, EnvS W tp0 G0 H0 tp G1 H1 σ ρ τ1 → Ext tp G H G1 H1 → rel tp G1 b a → Ps W Wx tp0 G0 H0 G1 D (f a τ1) → Q' b H1) : Pg W Wx rel tp σ ρ G H Q' r := by
  cases r with
  | ok a τ1 => exact fun b G1 H1 e1 E1 r1 => k a τ1 b G1 H1 (E.step e1 E1) e1 r1 (Ps.shift (r := f a τ1) P e1.g)
  | ex x τ1 => exact fun d G1 H1 e1 E1 hx => P d tp G1 H1 σ e1.g (E.step e1 E1) hx
  | no => exact P.elim
variable {te : TE} {δe : DE} {t u : L2.TS} {δt δu : DS} {tc : TT} {δc : DT}
def dNx : DS := fun ρ τ => .ok (.nx ρ) τ
def dSeq (a b : DS) : DS := fun ρ τ => match a ρ τ with
  | .ok (.nx ρ1) τ1 => b ρ1 τ1
  | r => r
def dSet (i : Nat) (e : DE) : DS := fun ρ τ => stE (e ρ τ) ρ fun d τ1 => .ok (.nx (ρ.set i (some (.fr d)))) τ1
def dDrop (e : DE) : DS := fun ρ τ => stE (e ρ τ) ρ fun d τ1 => .ok (.nx ρ) τ1
def dRet (e : DE) : DS := fun ρ τ => stE (e ρ τ) ρ fun d τ1 => .ok (.rt d) τ1
def dRetN : DS := fun ρ τ => .ok (.rt .non) τ
def dIfS (c : DT) (a b : DS) : DS := fun ρ τ => stE (c ρ τ) ρ fun x τ1 => if x = true then a ρ τ1 else b ρ τ1
def dAsgT (e : DE) (g : Tg) : DS := fun ρ τ => stE (e ρ τ) ρ fun d τ1 => match tgF g d ρ with
  | some ρ1 => .ok (.nx ρ1) τ1
  | none => .no
def dAug (i : Nat) (g : DD → DD → Option DD) (e : DE) : DS := fun ρ τ => match ρ[i]? with
  | some (some (.fr x)) => stE (e ρ τ) ρ fun y τ1 => match g x y with
    | some z => .ok (.nx (ρ.set i (some (.fr z)))) τ1
    | none => .no
  | _ => .no
theorem ds_next : DnS W Wx tNext dNx := fun tp0 G0 H0 tp G H σ ρ τ D E P => P tp G H σ (GS.refl _) E
theorem ds_seq (ht : DnS W Wx t δt) (hu : DnS W Wx u δu) : DnS W Wx (tSeq t u) (dSeq δt δu) := fun tp0 G0 H0 tp G H σ ρ τ D E P => by
  refine ht _ _ _ _ _ _ _ _ _ _ E ?_
  unfold dSeq at P
  split at P
  · rename_i ρ1 τ1 h
    rw [h]
    exact fun tp' G' H' σ' s E' => hu _ _ _ _ _ _ _ _ _ _ E' (Ps.shift P s)
  · rename_i h
    revert P h
    match δt ρ τ with
    | .ok (.nx ρ) τ => intro h P; exact (h ρ τ rfl).elim
    | .ok (.bk ρ) τ => intro _ P; exact P
    | .ok (.ct ρ) τ => intro _ P; exact P
    | .ok (.rt d) τ => intro _ P; exact P
    | .ok (.ro d) τ => intro _ P; exact P
    | .ok (.xc x ρ) τ => intro _ P; exact P
    | .ex x τ => intro _ P; exact P.elim
    | .no => intro _ P; exact P.elim
theorem EnvS.setF {i : Nat} {v : V} {d : DD} (E : EnvS W tp0 G0 H0 tp G H σ ρ τ) (r : Rp W.K W.cm G v d) : EnvS W tp0 G0 H0 tp G H (σ.set i (some v)) (ρ.set i (some (.fr d))) τ :=
  E.sub (E.v.setF r) (Sub.set fun _ z => by cases z)
theorem ds_set {i : Nat} (he : Dn W Wx te δe) : DnS W Wx (tAsg te (gName i)) (dSet i δe) := fun tp0 G0 H0 tp G H σ ρ τ D E P =>
  he _ _ _ _ _ _ _ E.v (P.bind E fun d τ1 v G1 H1 E1 e1 r1 P1 => P1 tp G1 H1 _ (GS.refl _) (E1.setF r1))
theorem ds_drop (he : Dn W Wx te δe) : DnS W Wx (tDrop te) (dDrop δe) := fun tp0 G0 H0 tp G H σ ρ τ D E P =>
  he _ _ _ _ _ _ _ E.v (P.bind E fun d τ1 v G1 H1 E1 e1 r1 P1 => P1 tp G1 H1 _ (GS.refl _) E1)
theorem ds_ret (he : Dn W Wx te δe) : DnS W Wx (tRet te) (dRet δe) := fun tp0 G0 H0 tp G H σ ρ τ D E P =>
  he _ _ _ _ _ _ _ E.v (P.bind E fun d τ1 v G1 H1 E1 e1 r1 P1 => P1 v tp G1 H1 E1.e E1.v.g E1.v.t (E1.t.imp id fun z => z.1) r1)
theorem ds_if (hc : DnT W Wx tc δc) (ht : DnS W Wx t δt) (hu : DnS W Wx u δu) : DnS W Wx (tIfS tc t u) (dIfS δc δt δu) := fun tp0 G0 H0 tp G H σ ρ τ D E P =>
  hc _ _ _ _ _ _ _ E.v (P.bind E fun b τ1 v G1 H1 E1 e1 r1 P1 => by
    cases r1
    cases b with
    | true => exact iteT (ht _ _ _ _ _ _ _ _ _ _ E1 P1)
    | false => exact iteF (hu _ _ _ _ _ _ _ _ _ _ E1 P1))
theorem ds_asgT {g : Tg} (he : Dn W Wx te δe) : DnS W Wx (tAsg te (tgG W.K g)) (dAsgT δe g) := fun tp0 G0 H0 tp G H σ ρ τ D E P =>
  he _ _ _ _ _ _ _ E.v (P.bind E fun d τ1 v G1 H1 E1 e1 r1 P1 => by
    cases hg : tgF g d ρ with
    | none => rw [hg] at P1; exact P1.elim
    | some ρ1 =>
      rw [hg] at P1
      exact tg_run g E1.v r1 hg fun σ' E' s _ => P1 tp G1 H1 _ (GS.refl _) (E1.sub E' s))
/-- a, b = x, y -/
def dPar (i j : Nat) (a : DA) : DS := fun ρ τ => stE (a ρ τ) ρ fun ds τ1 => match ds with
  | [d, e] => .ok (.nx ((ρ.set i (some (.fr d))).set j (some (.fr e)))) τ1
  | _ => .no
variable {ta : TA} {δa : DA}
theorem ds_par {i j : Nat} (ha : DnA W Wx ta δa) : DnS W Wx (tPar i j ta) (dPar i j δa) := fun tp0 G0 H0 tp G H σ ρ τ D E P =>
  ha _ _ _ _ _ _ _ E.v (P.bind E fun ds τ1 vs G1 H1 E1 e1 r1 P1 => by
    split at P1
    · cases r1 with | cons r rs =>
      cases rs with | cons r' rs =>
      cases rs
      exact ⟨_, _, rfl, P1 tp G1 H1 _ (GS.refl _) ((E1.setF r).setF r')⟩
    · exact P1.elim)
/-- what is made new, as a slot's own -/
def PgF (W : Wp) (Wx : L2.St → XK) (tp : Option Addr) (σ : L2.St) (ρ : PEnv) (G : GH) (H : Hp) (Q : VK) : R OC → Prop
  | .ok c τ => ∀ p F G' H', Ext tp G H G' H' → EnvV W tp G' H' σ ρ τ → OwR W G' H' p c F → (∀ q ∈ F, H q = none ∧ G' q = none ∧ NoM tp G' q) → Q (.ref p) H'
  | .ex x τ => ∀ d G' H', Ext tp G H G' H' → EnvV W tp G' H' σ ρ τ → ExR W G' H' x d → Wx σ (.ref (W.cm x.cls)) d H'
  | .no => False
def DnF (W : Wp) (Wx : L2.St → XK) (t : TE) (δ : PEnv → TS' → R OC) : Prop := ∀ tp G H σ ρ τ (Q : VK), EnvV W tp G H σ ρ τ → PgF W Wx tp σ ρ G H Q (δ ρ τ) → t σ H Q
def dLstF (a : DA) : PEnv → TS' → R OC := fun ρ τ => (a ρ τ).bind fun x τ1 => if x.length ≤ sizeLine then .ok (.lst x) τ1 else .no
theorem Ext.back {p : Addr} {tp : Option Addr} {G G' : GH} {H H' : Hp} (e : Ext tp G H G' H') (n : H' p = none) : H p = none := by
  cases q : H p with
  | none => rfl
  | some o => exact (e.x p (by rw [q]; simp) n).elim
theorem fr1 {p : Addr} (n : H p = none) (g : G' p = none) (nt : NoM tp G' p) : ∀ q ∈ [p], H q = none ∧ G' q = none ∧ NoM tp G' q := fun q hq => by
  cases List.mem_singleton.mp hq
  exact ⟨n, g, nt⟩
theorem PgF.shift {Q : VK} {r : R OC} (P : PgF W Wx tp σ ρ G H Q r) (e : Ext tp G H G' H') : PgF W Wx tp σ ρ G' H' Q r := by
  cases r with
  | ok c τ => exact fun p F G2 H2 e2 E2 w fr => P p F G2 H2 (e.trans e2) E2 w fun q hq => ⟨e.back (fr q hq).1, (fr q hq).2⟩
  | ex x τ => exact fun d G2 H2 e2 => P d G2 H2 (e.trans e2)
  | no => exact P
theorem PgF.bind {α β : Type} {rel : Option Addr → GH → β → α → Prop} {Q : VK} {Q' : β → Hp → Prop} {r : R α} {f : α → TS' → R OC} (P : PgF W Wx tp σ ρ G H Q (r.bind f))
    (k : ∀ a τ1 b G1 H1, Ext tp G H G1 H1 → EnvV W tp G1 H1 σ ρ τ1 → rel tp G1 b a → PgF W Wx tp σ ρ G1 H1 Q (f a τ1) → Q' b H1) : Pg W Wx rel tp σ ρ G H Q' r := by
  cases r with
  | ok a τ1 => exact fun b G1 H1 e1 E1 r1 => k a τ1 b G1 H1 e1 E1 r1 (PgF.shift (r := f a τ1) P e1)
  | ex x τ1 => exact P
  | no => exact P
theorem df_lst (ha : DnA W Wx ta δa) : DnF W Wx (tLst ta) (dLstF δa) := fun tp G H σ ρ τ Q E P =>
  ha _ _ _ _ _ _ _ E (P.bind fun a τ1 x G1 H1 e1 E1 r1 P1 => by
    by_cases h : a.length ≤ sizeLine
    · rw [if_pos h] at P1
      exact ⟨by rw [r1.length]; exact h, fun p n => P1 p [p] G1 _ (Ext.newH n) (E1.newH n) ⟨rfl, _, upd_same, r1⟩ (fr1 n (E1.g.free n) (E1.noM n))⟩
    · rw [if_neg h] at P1
      exact P1.elim)
/-- a comprehension's list, as a slot's own -/
def dLcF (i : DI) (t : Tg) (c : DT) (e : DE) (vs : List Nat) : PEnv → TS' → R OC := fun ρ τ => (i ρ τ).bind fun ds τ1 => if ds.length ≤ sizeLine then (lcL t c e (wipeP ρ vs) ds τ1).bind fun ys τ2 => .ok (.lst ys) τ2 else .no
theorem df_lc {wi : TI} {tt : TT} {te : TE} {vs : List Nat} {δi : DI} {δc : DT} {δe : DE} {t : Tg} (hv : (tgS t).all (fun i => decide (i ∈ vs)) = true) (hi : DnI W Wx wi δi) (hc : DnT W W0 tt δc) (he : Dn W W0 te δe) :
    DnF W Wx (tLc wi (tgG W.K t) tt te vs) (dLcF δi t δc δe vs) := fun tp G H σ ρ τ Q E P =>
  hi _ _ _ _ _ _ _ E (P.bind fun ds τ1 J G1 H1 e1 E1 it P1 D nD => by
    by_cases hl : ds.length ≤ sizeLine
    · rw [if_pos hl] at P1
      cases hok : lcL t δc δe (wipeP ρ vs) ds τ1 with
      | no => rw [hok] at P1; exact P1.elim
      | ex x τx => exact (lcL_noex hok).elim
      | ok ys τ' =>
        rw [hok] at P1
        exact lc_run hv hc he E1 it hl hok nD fun acc G' H' e E' gD mD hD ra => P1 D [D] G' H' e E' ⟨rfl, acc, hD, ra⟩ (fr1 nD gD mD)
    · rw [if_neg hl] at P1
      exact P1.elim)
def dSetO (i : Nat) (e : PEnv → TS' → R OC) : DS := fun ρ τ => stE (e ρ τ) ρ fun c τ1 => .ok (.nx (ρ.set i (some (.ow c)))) τ1
/-- where a slot was set -/
theorem set_own {α : Type} {l : List (Option α)} {i j : Nat} {x y : α} (h : (l.set i (some x))[j]? = some (some y)) : (j = i ∧ x = y) ∨ (j ≠ i ∧ l[j]? = some (some y)) := by
  by_cases e : i = j
  · subst e
    by_cases hl : i < l.length
    · rw [List.getElem?_set_self hl] at h
      cases h
      exact .inl ⟨rfl, rfl⟩
    · rw [List.getElem?_eq_none (by rw [List.length_set]; omega)] at h
      cases h
  · rw [List.getElem?_set_ne e] at h
    exact .inr ⟨fun z => e z.symm, h⟩
theorem EnvV.setO {i : Nat} {p : Addr} {c : OC} {F : List Addr} (E : EnvV W tp G H σ ρ τ) (w : OwR W G H p c F) (fr : ∀ q ∈ F, G q = none ∧ NoM tp G q) (no : ∀ q ∈ F, FreeP W G H σ ρ q) :
    EnvV W tp G H (σ.set i (some (.ref p))) (ρ.set i (some (.ow c))) τ := by
  refine ⟨E.g, Paired.setL (show SlotR W tp G H (some (.ref p)) (some (.ow c)) from ⟨p, F, rfl, w, fr⟩) i E.s, fun j k a b c1 c2 F1 F2 h1 h2 h3 h4 w1 w2 q q1 q2 => ?_, E.t⟩
  rcases set_own h1 with ⟨rfl, e⟩ | ⟨nj, h1'⟩
  · cases e
    rcases set_own h3 with ⟨_, e⟩ | ⟨nj, _⟩
    · cases e
      rcases set_own h2 with ⟨rfl, _⟩ | ⟨nk, h2⟩
      · rfl
      · rw [List.getElem?_set_ne (fun z => nk z.symm)] at h4
        rw [w1.uniq w] at q1
        exact (no q q1 k c2 b F2 h2 h4 w2 q2).elim
    · exact (nj rfl).elim
  · rw [List.getElem?_set_ne (fun z => nj z.symm)] at h3
    rcases set_own h2 with ⟨rfl, e⟩ | ⟨nk, h2⟩
    · cases e
      rcases set_own h4 with ⟨_, e⟩ | ⟨nk, _⟩
      · cases e
        rw [w2.uniq w] at q2
        exact (no q q2 j c1 a F1 h1' h3 w1 q1).elim
      · exact (nk rfl).elim
    · rw [List.getElem?_set_ne (fun z => nk z.symm)] at h4
      exact E.d j k a b c1 c2 F1 F2 h1' h2 h3 h4 w1 w2 q q1 q2
theorem EnvS.freeT {p : Addr} (E : EnvS W tp0 G0 H0 tp G H σ ρ τ) (n : H p = none) : H0 p = none := by
  cases q : H0 p with
  | none => rfl
  | some o =>
    exact (E.e.x p (by rw [q]; simp) n).elim
theorem EnvS.setO {i : Nat} {p : Addr} {c : OC} {F : List Addr} (E : EnvS W tp0 G0 H0 tp G H σ ρ τ) (w : OwR W G H p c F) (fr : ∀ q ∈ F, G q = none ∧ NoM tp G q) (no : ∀ q ∈ F, FreeP W G H σ ρ q) (n0 : ∀ q ∈ F, H0 q = none) :
    EnvS W tp0 G0 H0 tp G H (σ.set i (some (.ref p))) (ρ.set i (some (.ow c))) τ := by
  refine ⟨E.v.setO w fr no, E.e, fun j c' a F' h1 h2 w' => ?_, E.t⟩
  rcases set_own h1 with ⟨rfl, e⟩ | ⟨nj, h1⟩
  · cases e
    rcases set_own h2 with ⟨_, e⟩ | ⟨nj, _⟩
    · cases e
      rw [w'.uniq w]
      exact n0
    · exact (nj rfl).elim
  · rw [List.getElem?_set_ne (fun z => nj z.symm)] at h2
    exact E.o j c' a F' h1 h2 w'
theorem ds_setO {i : Nat} {δ : PEnv → TS' → R OC} (he : DnF W Wx te δ) : DnS W Wx (tAsg te (gName i)) (dSetO i δ) := fun tp0 G0 H0 tp G H σ ρ τ D E P => by
  refine he _ _ _ _ _ _ _ E.v ?_
  unfold dSetO at P
  cases h : δ ρ τ with
  | no => rw [h] at P; exact P.elim
  | ex x τ1 => rw [h] at P; exact fun d G1 H1 e1 E1 hx => P d tp G1 H1 σ e1.g (E.step e1 E1) hx
  | ok c τ1 =>
    rw [h] at P
    intro p F G1 H1 e1 E1 w fr
    exact P tp G1 H1 _ e1.g ((E.step e1 E1).setO w (fun q hq => (fr q hq).2) (fun q hq => (E.v.noO (fr q hq).1).ext E.v e1) (fun q hq => E.freeT (fr q hq).1))
theorem set_self {α : Type} {l : List (Option α)} {i : Nat} {x : α} (h : l[i]? = some (some x)) : l.set i (some x) = l := by
  apply List.ext_getElem?
  intro n
  by_cases hn : i = n
  · subst hn
    rw [List.getElem?_set_self (List.getElem?_eq_some_iff.mp h).1, h]
  · rw [List.getElem?_set_ne hn]
theorem SB.mutF {F : List Addr} (g : SB W G H) (hH : ∀ q o, q ∉ F → H q = some o → H' q = some o) (hF : ∀ q ∈ F, G.hp q = none) (n : ∀ q ∈ F, NT H q) : SB W G H' :=
  ⟨fun q o hq => hH q o (fun z => by rw [hF q z] at hq; cases hq) (g.s q o hq), tabs_keep g.t fun p o ho h => hH p o (fun z => by
    obtain ⟨u, hu, hn⟩ := n p z
    rw [h] at hu
    cases hu
    rw [ho] at hn
    cases hn) h, g.n⟩
theorem TapeO.mutF {F : List Addr} (t : TapeO W G H tp τ) (hH : ∀ q o, q ∉ F → H q = some o → H' q = some o) (n : ∀ q ∈ F, NoM tp G q) : TapeO W G H' tp τ := by
  match tp, τ, t, n with
  | none, none, _, _ => trivial
  | some a, some τ, t, n =>
    obtain ⟨g, ⟨c, s, h⟩, ⟨u, hu, hn⟩, st⟩ := t
    have ha : a ∉ F := fun z => (n a z a rfl).1 rfl
    exact ⟨g, ⟨c, s, hH a _ ha h⟩, ⟨u, hH a _ ha hu, hn⟩, st.keep (GS.refl _) rfl (fun _ _ z => z) fun b hb u h => hH b u (fun z => (n b z a rfl).2 hb) h⟩
/-- an owned thing changes: nothing but its nodes; new nodes are of nobody -/
theorem EnvS.mutG {i : Nat} {a : Addr} {c c' : OC} {F F' : List Addr} (E : EnvS W tp0 G0 H0 tp G H σ ρ τ) (hi : ρ[i]? = some (some (PV.ow c))) (ha : σ[i]? = some (some (V.ref a))) (w : OwR W G H a c F)
    (hH : ∀ q o, q ∉ F → H q = some o → H' q = some o) (w' : OwR W G H' a c' F') (hF : ∀ q ∈ F', q ∈ F ∨ (FreeP W G H σ ρ q ∧ G q = none ∧ NoM tp G q ∧ H0 q = none)) :
    EnvS W tp0 G0 H0 tp G H' σ (ρ.set i (some (.ow c'))) τ := by
  obtain ⟨F0, w0, gn⟩ := E.v.own hi ha
  cases w0.uniq w
  have kp : ∀ {j : Nat} {d : OC} {b : Addr} {F1 : List Addr}, j ≠ i → ρ[j]? = some (some (PV.ow d)) → σ[j]? = some (some (V.ref b)) → OwR W G H b d F1 → OwR W G H' b d F1 := fun {j d b F1} hj h1 h2 w1 => w1.keep (GS.refl _) fun q hq o => hH q o fun z => hj (E.v.d j i b a d c F1 F h1 hi h2 ha w1 w q hq z)
  have gs : SB W G H' := E.v.g.mutF hH (fun q hq => (gn q hq).1) w.nt
  have fr' : ∀ q ∈ F', G q = none ∧ NoM tp G q := fun q hq => (hF q hq).elim (gn q) fun z => ⟨z.2.1, z.2.2.1⟩
  have bk : ∀ {j : Nat} {d : OC} {b : Addr} {F1 : List Addr}, j ≠ i → ρ[j]? = some (some (PV.ow d)) → σ[j]? = some (some (V.ref b)) → OwR W G H' b d F1 → OwR W G H b d F1 := fun {j d b F1} hj h1 h2 w1 => by
    obtain ⟨F2, w2, _⟩ := E.v.own h1 h2
    rw [w1.uniq (kp hj h1 h2 w2)]
    exact w2
  have dj : ∀ {j : Nat} {d : OC} {b : Addr} {F1 : List Addr}, j ≠ i → ρ[j]? = some (some (PV.ow d)) → σ[j]? = some (some (V.ref b)) → OwR W G H b d F1 → ∀ q ∈ F', q ∉ F1 := fun {j d b F1} hj h1 h2 w1 q hq q1 => by
    rcases hF q hq with z | z
    · exact hj (E.v.d j i b a d c F1 F h1 hi h2 ha w1 w q q1 z)
    · exact z.1 j d b F1 h1 h2 w1 q1
  have hl : i < ρ.length := (List.getElem?_eq_some_iff.mp hi).1
  refine ⟨⟨gs, ?_, fun j k b1 b2 c1 c2 F1 F2 h1 h2 h3 h4 w1 w2 q q1 q2 => ?_, ?_⟩, ⟨E.e.g, fun p u n t h => hH p u (fun z => ?_) (E.e.h p u n t h), E.e.f, fun p hp => ?_, E.e.w, E.e.z⟩, fun j c1 b F1 h1 h2 w1 q hq => ?_, E.t⟩
  · have base : Paired (fun x y => SlotR W tp G H' x y ∨ ∃ c, y = some (PV.ow c)) σ ρ := Paired.mapI E.v.s fun j v q hv hq h => by
      match v, q, h with
      | _, none, _ => exact .inl (by cases v <;> trivial)
      | some v, some (.fr d), h => exact .inl h
      | some v, some (.ow c1), h => exact .inr ⟨_, rfl⟩
      | some v, some .tape, h => exact .inl h
      | some v, some (.scr ns), h => exact .inl h
      | some v, some (.fn x), h => exact .inl h
      | some v, some .thk, ⟨f, c1, q1, g, a1, b, s, n, h⟩ => exact .inl ⟨f, c1, q1, g, a1, b, s, n, hH c1 _ (fun z => code_ne h (w.nt c1 z) rfl) h⟩
    have fin : Paired (SlotR W tp G H') (σ.set i (some (V.ref a))) (ρ.set i (some (PV.ow c'))) := by
      have := Paired.setL (F := fun x y => SlotR W tp G H' x y ∨ ∃ c, y = some (PV.ow c)) (x := some (V.ref a)) (y := some (PV.ow c')) (.inr ⟨_, rfl⟩) i base
      refine Paired.mapI this fun j v q hv hq h => ?_
      rcases h with h | ⟨c1, rfl⟩
      · exact h
      · rcases set_own hq with ⟨rfl, e⟩ | ⟨nj, hq⟩
        · cases e
          rw [set_self ha] at hv
          rw [ha] at hv
          cases hv
          exact ⟨a, F', rfl, w', fr'⟩
        · rw [List.getElem?_set_ne (fun z => nj z.symm)] at hv
          obtain ⟨b, F1, h2, w1, gn1⟩ := E.v.ownS hq
          rw [hv] at h2
          cases h2
          exact ⟨b, F1, rfl, kp nj hq hv w1, gn1⟩
    rw [set_self ha] at fin
    exact fin
  · rcases set_own h1 with ⟨rfl, e⟩ | ⟨nj, h1'⟩
    · cases e
      rcases set_own h2 with ⟨rfl, _⟩ | ⟨nk, h2⟩
      · rfl
      · rw [ha] at h3
        cases h3
        rw [w1.uniq w'] at q1
        exact (dj nk h2 h4 (bk nk h2 h4 w2) q q1 q2).elim
    · rcases set_own h2 with ⟨rfl, e⟩ | ⟨nk, h2⟩
      · cases e
        rw [ha] at h4
        cases h4
        rw [w2.uniq w'] at q2
        exact (dj nj h1' h3 (bk nj h1' h3 w1) q q2 q1).elim
      · exact E.v.d j k b1 b2 c1 c2 F1 F2 h1' h2 h3 h4 (bk nj h1' h3 w1) (bk nk h2 h4 w2) q q1 q2
  · exact E.v.t.mutF hH fun q hq => (gn q hq).2
  · rw [E.o i c a F hi ha w p z] at h
    cases h
  · have z := E.e.x p hp
    cases q : H p with
    | none => exact (z q).elim
    | some o => rw [hH p o (fun hF => hp (E.o i c a F hi ha w p hF)) q]; simp
  · rcases set_own h1 with ⟨rfl, e⟩ | ⟨nj, h1⟩
    · cases e
      rw [ha] at h2
      cases h2
      rw [w1.uniq w'] at hq
      rcases hF q hq with z | z
      · exact E.o _ c a F hi ha w q z
      · exact z.2.2.2
    · exact E.o j c1 b F1 h1 h2 (bk nj h1 h2 w1) q hq
/-- a list or dict of a slot changes -/
theorem EnvS.mut {i : Nat} {a : Addr} {c c' : OC} {o : HO} (E : EnvS W tp0 G0 H0 tp G H σ ρ τ) (hi : ρ[i]? = some (some (PV.ow c))) (ha : σ[i]? = some (some (V.ref a))) (w : OwR W G H a c [a]) (w' : OwR W G (upd H a o) a c' [a]) :
    EnvS W tp0 G0 H0 tp G (upd H a o) σ (ρ.set i (some (.ow c'))) τ :=
  E.mutG hi ha w (fun q u hq h => by rw [upd_ne (fun z => hq (by rw [z]; simp))]; exact h) w' fun q hq => .inl hq
theorem EnvS.getO {i : Nat} {c : OC} (E : EnvS W tp0 G0 H0 tp G H σ ρ τ) (hi : ρ[i]? = some (some (PV.ow c))) : ∃ a F, σ[i]? = some (some (V.ref a)) ∧ OwR W G H a c F := by
  obtain ⟨a, F, h, w, _⟩ := E.v.ownS hi
  exact ⟨a, F, h, w⟩
/-- x.append(e) -/
def dApp (i : Nat) (e : DE) : DS := fun ρ τ => match ρ[i]? with
  | some (some (.ow (.lst xs))) => stE (e ρ τ) ρ fun d τ1 => if xs.length < sizeLine then .ok (.nx (ρ.set i (some (.ow (.lst (xs ++ [d])))))) τ1 else .no
  | _ => .no
theorem ds_app {i : Nat} (he : Dn W Wx te δe) : DnS W Wx (tDrop (tBM W.K "list" rAppend (tVar i) (tCons te tNil))) (dApp i δe) := fun tp0 G0 H0 tp G H σ ρ τ D E P => by
  unfold dApp at P
  split at P
  · rename_i xs hi
    obtain ⟨a, _, ha, rfl, vs, hv, rv⟩ := E.getO hi
    refine ⟨_, ha, .inl ⟨rfl, vs, SqL.of hv⟩, he _ _ _ _ _ _ _ E.v (P.bind E fun d τ1 y G1 H1 E1 e1 r1 P1 => ?_)⟩
    obtain ⟨b, _, hb, rfl, ws, hw, rw'⟩ := E1.getO hi
    rw [ha] at hb
    cases hb
    by_cases hl : xs.length < sizeLine
    · rw [if_pos hl] at P1
      exact ⟨a, ws, y, rfl, rfl, hw, by rw [rw'.length]; exact hl, P1 tp G1 _ σ (GS.refl _) (E1.mut hi ha ⟨rfl, ws, hw, rw'⟩ ⟨rfl, _, upd_same, rw'.append (.cons r1 .nil)⟩)⟩
    · rw [if_neg hl] at P1
      exact P1.elim
  · exact P.elim
/-- x.extend(e) -/
def dExt (i : Nat) (e : DE) : DS := fun ρ τ => match ρ[i]? with
  | some (some (.ow (.lst xs))) => stE (e ρ τ) ρ fun d τ1 => match d with
    | .lst ys => if xs.length + ys.length ≤ sizeLine then .ok (.nx (ρ.set i (some (.ow (.lst (xs ++ ys)))))) τ1 else .no
    | _ => .no
  | _ => .no
/-- x.reverse(), x.clear() -/
def dRevO (i : Nat) : DS := fun ρ τ => match ρ[i]? with
  | some (some (.ow (.lst xs))) => .ok (.nx (ρ.set i (some (.ow (.lst xs.reverse))))) τ
  | _ => .no
/-- x[k] = e -/
def dPutL (i : Nat) (k e : DE) : DS := fun ρ τ => stE (e ρ τ) ρ fun d τ1 => match ρ[i]? with
  | some (some (.ow (.lst xs))) => stE (k ρ τ1) ρ fun n τ2 => match n with
    | .int n => match ixN xs.length n with
      | some j => .ok (.nx (ρ.set i (some (.ow (.lst (xs.set j d)))))) τ2
      | none => .no
    | _ => .no
  | _ => .no
mutual
def otD : OT → DD
  | .fr d => d
  | .nd .lst ts => .lst (otDs ts)
  | .nd (.dK ks) ts => .dic (ks.zip (otDs ts))
  | .nd (.obj C ns) ts => .obj C (ns.zip (otDs ts))
def otDs : List OT → List DD
  | [] => []
  | t :: ts => otD t :: otDs ts
end
def ocD : OC → DD
  | .lst xs => .lst xs
  | .dK xs => .dic xs
  | .tr k ts => otD (.nd k ts)
theorem rpk_zip {K : PySem.W.Frag} {cm : CM} : ∀ {ks : List Key} {vs : List V} {ds : List DD}, RpA K cm G vs ds → RpK K cm G (ks.zip vs) (ks.zip ds)
  | [], _, _, _ => .nil
  | k :: ks, _, _, .nil => .nil
  | k :: ks, _, _, .cons h r => .cons h (rpk_zip r)
theorem rpf_zip {K : PySem.W.Frag} {cm : CM} : ∀ {ks : List Str} {vs : List V} {ds : List DD}, RpA K cm G vs ds → RpF K cm G (ks.zip vs) (ks.zip ds)
  | [], _, _, _ => .nil
  | k :: ks, _, _, .nil => .nil
  | k :: ks, _, _, .cons h r => .cons h (rpf_zip r)
mutual
theorem Ow.rp : ∀ {v : V} {t : OT} {F : List Addr}, Ow W G H v t F → GS G G' → (∀ q ∈ F, G' q = H q) → Rp W.K W.cm G' v (otD t)
  | _, _, _, .fr r, g, _ => by rw [otD]; exact Rp.mono g r
  | _, _, _, .nd (a := a) (k := k) (vs := vs) (ts := ts) h r n, g, e => by
    have ra := OwA.rp r g fun q hq => e q (List.mem_cons_of_mem _ hq)
    have ea := e a List.mem_cons_self
    cases k with
    | lst => rw [otD]; exact .lst (by rw [ea]; exact h) ra
    | dK ks => rw [otD]; exact .dic (by rw [ea]; exact h.2) (rpk_zip ra)
    | obj C ns => rw [otD]; obtain ⟨_, dx, h⟩ := h; exact .obj (by rw [ea]; exact h) (rpf_zip ra)
theorem OwA.rp : ∀ {v : List V} {t : List OT} {F : List Addr}, OwA W G H v t F → GS G G' → (∀ q ∈ F, G' q = H q) → RpA W.K W.cm G' v (otDs t)
  | _, _, _, .nil, _, _ => by rw [otDs]; exact .nil
  | _, _, _, .cons h r n, g, e => by rw [otDs]; exact .cons (Ow.rp h g fun q hq => e q (List.mem_append_left _ hq)) (OwA.rp r g fun q hq => e q (List.mem_append_right _ hq))
end
theorem OwR.rp {a : Addr} {c : OC} {F : List Addr} (w : OwR W G H a c F) (g : GS G G') (e : ∀ q ∈ F, G' q = H q) : Rp W.K W.cm G' (.ref a) (ocD c) := by
  cases c with
  | lst xs => obtain ⟨rfl, vs, h, r⟩ := w; exact .lst (by rw [e a (by simp)]; exact h) (r.mono g)
  | dK xs => obtain ⟨rfl, vs, h, r⟩ := w; exact .dic (by rw [e a (by simp)]; exact h) (r.mono g)
  | tr k ts => exact Ow.rp (show Ow W G H _ _ _ from w) g e
/-- the heap of what stays, with some more -/
def upF (G : GH) (H : Hp) (F : List Addr) : GH := ⟨fun q => if q ∈ F then H q else G q, G.ads⟩
theorem upF_in {F : List Addr} : ∀ q ∈ F, (upF G H F).hp q = H q := fun q hq => if_pos hq
theorem upF_out {F : List Addr} {q : Addr} (h : q ∉ F) : (upF G H F).hp q = G.hp q := if_neg h
theorem upF_same {F : List Addr} (h : ∀ q ∈ F, G q = none) : GS G (upF G H F) := ⟨fun q o hq => by
  rw [upF_out (fun z => by rw [h q z] at hq; cases hq)]; exact hq, List.prefix_rfl⟩
theorem SB.upF {F : List Addr} (g : SB W G H) (n : ∀ q ∈ F, NT H q) : SB W (upF G H F) H := by
  refine ⟨fun q u hq => ?_, g.t, fun q hq => ?_⟩
  · by_cases z : q ∈ F
    · rw [upF_in q z] at hq
      exact hq
    · rw [upF_out z] at hq
      exact g.s q u hq
  · obtain ⟨ps, e, _⟩ := g.t q hq
    rw [upF_out (fun z => by
      obtain ⟨o, ho, hn⟩ := n q.1 z
      rw [e] at ho
      cases ho
      cases hn)]
    exact g.n q hq
/-- things that no slot has stay from now on -/
theorem EnvV.freezeF {F : List Addr} (E : EnvV W tp G H σ ρ τ) (g : ∀ q ∈ F, G q = none ∧ NoM tp G q) (n : ∀ q ∈ F, NT H q) (no : ∀ q ∈ F, FreeP W G H σ ρ q) : EnvV W tp (upF G H F) H σ ρ τ := by
  have s1 : GS G (upF G H F) := upF_same fun q hq => (g q hq).1
  refine ⟨E.g.upF n, Paired.mapI E.s fun j v q hv hq' h => ?_, fun i j a b c c' F1 F2 h1 h2 h3 h4 w w' => E.d i j a b c c' F1 F2 h1 h2 h3 h4 (E.back s1 (fun _ _ _ h => h) h1 h3 w) (E.back s1 (fun _ _ _ h => h) h2 h4 w'), ?_⟩
  · match v, q, h with
    | _, none, _ => cases v <;> trivial
    | some v, some (.fr d), h => exact Rp.mono s1 h
    | some v, some (.ow c), ⟨a, F1, r, w, gn⟩ =>
      subst r
      exact ⟨a, F1, rfl, w.keep s1 fun _ _ o h => h, fun q hq => ⟨by rw [upF_out (fun z => no q z j c a F1 hq' hv w hq)]; exact (gn q hq).1, (gn q hq).2⟩⟩
    | some v, some .tape, h => exact h
    | some v, some (.scr ns), ⟨a, r, q⟩ => exact ⟨a, r, s1.seq q⟩
    | some v, some (.fn x), h => exact h
    | some v, some .thk, ⟨f, c, q, g, a, b, s, n, h⟩ => exact ⟨f, c, q, g, a, b, s.trans s1, n, h⟩
  · refine E.t.frz s1.s rfl fun q hq hm => ?_
    cases tp with
    | none => exact .inr rfl
    | some a =>
      refine .inl ?_
      rw [upF_out (fun z => by rcases hm a rfl with h | h; exact ((g q z).2 a rfl).1 h; exact ((g q z).2 a rfl).2 h)]
      exact hq
def frz (i : Nat) (ρ : PEnv) : PEnv := match ρ[i]? with
  | some (some (.ow c)) => ρ.set i (some (.fr (ocD c)))
  | _ => ρ
def dFrz (i : Nat) (a : DS) : DS := fun ρ τ => a (frz i ρ) τ
theorem EnvV.frzO {i : Nat} {a : Addr} {c : OC} {F : List Addr} (E : EnvV W tp G H σ ρ τ) (hi : ρ[i]? = some (some (PV.ow c))) (ha : σ[i]? = some (some (V.ref a))) (w : OwR W G H a c F) :
    GS G (upF G H F) ∧ EnvV W tp (upF G H F) H σ (ρ.set i (some (.fr (ocD c)))) τ := by
  obtain ⟨F0, w0, gn⟩ := E.own hi ha
  cases w0.uniq w
  have s1 : GS G (upF G H F) := upF_same fun q hq => (gn q hq).1
  -- first the slot is emptied, then the thing stays, then the slot has it again
  have E1 : EnvV W tp G H (σ.set i none) (ρ.set i none) τ := E.setN
  have E2 := E1.freezeF (F := F) gn w.nt fun q hq j c' b F1 q1 q2 w1 z => by
    obtain ⟨n1, q1'⟩ := set_get q1 (by simp)
    obtain ⟨n2, q2'⟩ := set_get q2 (by simp)
    exact n1 (E.d j i b a c' c F1 F q1' hi q2' ha w1 w q z hq)
  have E3 := E2.setF (i := i) (w.rp s1 upF_in)
  rw [List.set_set, List.set_set, set_self ha] at E3
  exact ⟨s1, E3⟩
theorem EnvS.frz (E : EnvS W tp0 G0 H0 tp G H σ ρ τ) (i : Nat) : ∃ G', GS G G' ∧ EnvS W tp0 G0 H0 tp G' H σ (Np.frz i ρ) τ := by
  unfold Np.frz
  split
  · rename_i c hi
    obtain ⟨a, F, ha, w⟩ := E.getO hi
    obtain ⟨s, E'⟩ := E.v.frzO hi ha w
    refine ⟨_, s, E', ⟨E.e.g.trans s, E.e.h, fun p n hp hg => ?_, E.e.x, E.e.w, E.e.z⟩, fun j c' b F' q1 q2 w' => ?_, E.t⟩
    · rw [upF_out (fun z => hp.ne (E.o i c a F hi ha w p z))]
      exact E.e.f p n hp hg
    · obtain ⟨n1, q1'⟩ := set_get q1 (by simp)
      exact E.o j c' b F' q1' q2 (E.v.back s (fun _ _ _ h => h) q1' q2 w')
  · exact ⟨G, GS.refl _, E⟩
theorem ds_frz {i : Nat} (h : DnS W Wx t δt) : DnS W Wx t (dFrz i δt) := fun tp0 G0 H0 tp G H σ ρ τ D E P => by
  obtain ⟨G', s, E'⟩ := E.frz i
  exact h _ _ _ _ _ _ _ _ _ _ E' (Ps.shift P s)
end
end Np
set_option Elab.async false
set_option linter.all false
set_option maxRecDepth 100000
set_option maxHeartbeats 4000000
namespace Np
open PySem PySem.Spec PyProof.Rows L2
section
variable {W : Wp} {Wx : L2.St → XK} {tp0 tp tp' : Option Addr} {G0 G G' : GH} {H0 H H' : Hp} {σ : L2.St} {ρ : PEnv} {τ τ' : TS'} {D : Ends}
variable {te : TE} {δe : DE} {t u : L2.TS} {δt δu : DS} {tc : TT} {δc : DT} {ta : TA} {δa : DA}
/-- how a turn of a loop ends -/
def turnEnd (r : R Ct) (k : PEnv → TS' → R Ct) : R Ct := match r with
  | .ok (.nx ρ) τ => k ρ τ
  | .ok (.ct ρ) τ => k ρ τ
  | .ok (.bk ρ) τ => .ok (.nx ρ) τ
  | r => r
def forL (g : Tg) (b : DS) : List DD → DS
  | [], ρ, τ => .ok (.nx ρ) τ
  | d :: ds, ρ, τ => match tgF g d ρ with
    | some ρ1 => turnEnd (b ρ1 τ) (forL g b ds)
    | none => .no
def dFor (i : DI) (g : Tg) (b : DS) : DS := fun ρ τ => stE (i ρ τ) ρ fun ds τ1 => forL g b ds ρ τ1
theorem Ps.turn {r : R Ct} {k : PEnv → TS' → R Ct} {N : L2.St → Hp → Prop} (P : Ps W Wx tp0 G0 H0 G D (turnEnd r k))
    (hN : ∀ ρ τ tp' G' H' σ', GS G G' → EnvS W tp0 G0 H0 tp' G' H' σ' ρ τ → Ps W Wx tp0 G0 H0 G' D (k ρ τ) → N σ' H') : Ps W Wx tp0 G0 H0 G { D with nx := N, ct := N, bk := D.nx } r := by
  match r, P with
  | .ok (.nx ρ) τ, P => exact fun tp' G' H' σ' s E => hN ρ τ tp' G' H' σ' s E (Ps.shift P s)
  | .ok (.ct ρ) τ, P => exact fun tp' G' H' σ' s E => hN ρ τ tp' G' H' σ' s E (Ps.shift P s)
  | .ok (.bk ρ) τ, P => exact P
  | .ok (.rt d) τ, P => exact P
  | .ok (.ro d) τ, P => exact P
  | .ok (.xc x ρ) τ, P => exact P
  | .ex x τ, P => exact P.elim
  | .no, P => exact P.elim
theorem ds_for {wi : TI} {δi : DI} {g : Tg} (hi : DnI W Wx wi δi) (hb : DnS W Wx t δt) : DnS W Wx (tFor wi (tgG W.K g) t) (dFor δi g δt) := fun tp0 G0 H0 tp G H σ ρ τ D E P =>
  hi _ _ _ _ _ _ _ E.v (P.bind E fun ds τ1 J G1 H1 E1 e1 it P1 => by
    have w : Walk J ds.length (fun H => SB W G1 H) (fun i H x H' => ∀ d Gc, ds[i]? = some d → GS G1 Gc → SB W Gc H → ∃ G', Ext none Gc H G' H' ∧ SB W G' H' ∧ Rp W.K W.cm G' x d) :=
      ⟨fun i H hi s => it.go i H s hi, fun H s => it.stop H s, fun i H x H' hi s y d Gc hd s1 s2 => it.yld i d Gc H x H' s1 s2 hd y⟩
    refine for_it w (fun i σc Hc => ∃ tpc Gc ρc τc, EnvS W tp0 G0 H0 tpc Gc Hc σc ρc τc ∧ GS G1 Gc ∧ Ps W Wx tp0 G0 H0 Gc D (forL g δt (ds.drop i) ρc τc)) ⟨tp, G1, ρ, τ1, E1, GS.refl _, P1⟩ (fun i σc Hc _ h => ?_) ?_ ?_
    · obtain ⟨tpc, Gc, ρc, τc, Ec, sc, _⟩ := h
      exact sc.sb Ec.v.g
    · rintro i x σc Hc Hc' hi ⟨tpc, Gc, ρc, τc, Ec, sc, Pc⟩ y
      obtain ⟨d, hd⟩ : ∃ d, ds[i]? = some d := ⟨ds[i], List.getElem?_eq_getElem hi⟩
      have hdr : ds.drop i = d :: ds.drop (i + 1) := by
        obtain ⟨h1, h2⟩ := List.getElem?_eq_some_iff.mp hd
        rw [List.drop_eq_getElem_cons h1, h2]
      obtain ⟨Gd, ed, sd, rd⟩ := y d Gc hd sc Ec.v.g
      have Ed := Ec.step ed.weak (Ec.v.grow ed sd)
      rw [hdr, forL] at Pc
      cases hf : tgF g d ρc with
      | none => rw [hf] at Pc; exact Pc.elim
      | some ρ1 =>
        rw [hf] at Pc
        refine tg_run g Ed.v rd hf fun σ2 E2 s2 _ => hb _ _ _ _ _ _ _ _ _ _ (Ed.sub E2 s2) (Ps.turn (Ps.shift Pc ed.g) fun ρ3 τ3 tp3 G3 H3 σ3 s3 E3 P3 => ?_)
        exact ⟨tp3, G3, ρ3, τ3, E3, sc.trans (ed.g.trans s3), P3⟩
    · rintro σc Hc ⟨tpc, Gc, ρc, τc, Ec, sc, Pc⟩
      rw [List.drop_length, forL] at Pc
      exact Pc tpc Gc Hc σc (GS.refl _) Ec)
def hid : Option PV → Option PV
  | some .tape => none
  | p => p
def bor (i : Nat) (c : OC) (ρ : PEnv) : PEnv := (ρ.map hid).set i (some (.fr (ocD c)))
def flatD : DD → Bool
  | .non => true
  | .bl _ => true
  | .int _ => true
  | .str _ => true
  | _ => false
theorem flatD_any {d : DD} {v : V} (h : flatD d = true) (r : Rp W.K W.cm G v d) (G' : GH) : Rp W.K W.cm G' v d := by
  cases r <;> first | (cases h; done) | exact .non | exact .bl _ | exact .int _ | exact .str _
theorem Paired.mapR {α β γ : Type} {F : α → β → Prop} {F' : α → γ → Prop} {f : β → γ} : ∀ {xs : List α} {ys : List β}, Paired F xs ys → (∀ x y, F x y → F' x (f y)) → Paired F' xs (ys.map f)
  | _, _, .nil, _ => .nil
  | _, _, .cons h t, k => .cons (k _ _ h) (Paired.mapR t k)
theorem hid_ow {ρ : PEnv} {j : Nat} {c : OC} (h : (ρ.map hid)[j]? = some (some (PV.ow c))) : ρ[j]? = some (some (PV.ow c)) := by
  rw [List.getElem?_map] at h
  obtain ⟨p, h1, h2⟩ := Option.map_eq_some_iff.mp h
  rw [h1]
  cases p with
  | none => cases h2
  | some p => cases p <;> first | (cases h2; done) | (exact congrArg some h2)
theorem EnvV.hide (E : EnvV W tp G H σ ρ τ) : EnvV W none G H σ (ρ.map hid) none := by
  refine ⟨E.g, Paired.mapR E.s fun x y h => ?_, fun i j a b c c' F F' h1 h2 => E.d i j a b c c' F F' (hid_ow h1) (hid_ow h2), trivial⟩
  match x, y, h with
  | _, none, _ => cases x <;> trivial
  | some v, some (.fr d), h => exact h
  | some v, some (.ow c), ⟨a, F, r, w, gn⟩ => exact ⟨a, F, r, w, fun q hq => ⟨(gn q hq).1, NoM.none⟩⟩
  | some v, some .tape, h => trivial
  | some v, some (.scr ns), h => exact h
  | some v, some (.fn x), h => exact h
  | some v, some .thk, ⟨f, c, q, g, a, b, s, n, h⟩ => exact ⟨f, c, q, g, a, b, s, NoM.none, h⟩
theorem borrow {i : Nat} {c : OC} (E : EnvV W tp G H σ ρ τ) (hi : ρ[i]? = some (some (PV.ow c))) : ∃ G1, GS G G1 ∧ EnvV W none G1 H σ (bor i c ρ) none := by
  obtain ⟨a, F, h1, w, _⟩ := E.ownS hi
  obtain ⟨s, e⟩ := E.hide.frzO (i := i) (c := c) (by rw [List.getElem?_map, hi]; rfl) h1 w
  exact ⟨_, s, e⟩
theorem EnvV.after {G1 G2 : GH} (E : EnvV W tp G H σ ρ τ) (s : GS G G1) (e : Ext none G1 H G2 H') (g : SB W G2 H') : Ext tp G H G H' ∧ EnvV W tp G H' σ ρ τ := by
  have e0 := e
  have e : Ext none G H G H' := ⟨GS.refl _, fun p o _ => e.h p o NoM.none, fun _ _ _ q => q, e.x, fun _ => .inl, fun _ => rfl⟩
  exact ⟨e.weak, E.grow e ⟨(s.s.trans e0.g.s).trans g.s, g.t, E.g.n⟩⟩
/-- e, where an owned slot is looked at: a flat answer -/
def dBor (i : Nat) (e : DE) : DE := fun ρ τ => match ρ[i]? with
  | some (some (.ow c)) => match e (bor i c ρ) none with
    | .ok d _ => if flatD d = true then .ok d τ else .no
    | _ => .no
  | _ => .no
def dBorT (i : Nat) (e : DT) : DT := fun ρ τ => match ρ[i]? with
  | some (some (.ow c)) => match e (bor i c ρ) none with
    | .ok d _ => .ok d τ
    | _ => .no
  | _ => .no
theorem dn_bor {i : Nat} (he : Dn W W0 te δe) : Dn W Wx te (dBor i δe) := fun tp G H σ ρ τ Q E P => by
  unfold dBor at P
  split at P
  · rename_i c hi
    obtain ⟨G1, s1, E1⟩ := borrow E hi
    refine he _ _ _ _ _ _ _ E1 ?_
    split at P
    · rename_i d τ1 h
      rw [h]
      split at P
      · rename_i hf
        intro v G2 H2 e2 E2 r2
        obtain ⟨a1, a2⟩ := E.after s1 e2 E2.g
        exact P v G H2 a1 a2 (flatD_any hf r2 G)
      · exact P.elim
    · exact P.elim
  · exact P.elim
theorem dt_bor {i : Nat} (he : DnT W W0 tc δc) : DnT W Wx tc (dBorT i δc) := fun tp G H σ ρ τ Q E P => by
  unfold dBorT at P
  split at P
  · rename_i c hi
    obtain ⟨G1, s1, E1⟩ := borrow E hi
    refine he _ _ _ _ _ _ _ E1 ?_
    split at P
    · rename_i d τ1 h
      rw [h]
      intro v G2 H2 e2 E2 r2
      obtain ⟨a1, a2⟩ := E.after s1 e2 E2.g
      exact P v G H2 a1 a2 r2
    · exact P.elim
  · exact P.elim
end
abbrev Fn := List PV → TS' → R DD
def FnPost (W : Wp) (tp : Option Addr) (G : GH) (H : Hp) (Q : VK) (E : XK) : R DD → Prop
  | .ok d τ' => ∀ v G' H', Ext tp G H G' H' → SB W G' H' → TapeO W G' H' tp τ' → Rp W.K W.cm G' v d → Q v H'
  | .ex x τ' => ∀ d G' H', Ext tp G H G' H' → SB W G' H' → TapeO W G' H' tp τ' → ExR W G' H' x d → E (.ref (W.cm x.cls)) d H'
  | .no => False
def spP (W : Wp) (k : Nat) (F : Fn) : Sp := fun vs H Q E => vs.length = k ∧ ∃ tp G as τ, SB W G H ∧ Paired (ArgR W tp G) vs as ∧ TapeO W G H tp τ ∧ FnPost W tp G H Q E (F as τ)
def fixT (τ τ' : TS') : TS' := if τ.isNone then none else τ'
def startP (n : Nat) (as : List PV) : PEnv := as.map some ++ List.replicate (n - as.length) none
def bodyF (n : Nat) (δ : DS) : Fn := fun as τ => match δ (startP n as) τ with
  | .ok (.rt d) τ' => .ok d (fixT τ τ')
  | .ok (.nx _) τ' => .ok .non (fixT τ τ')
  | .ok (.xc x _) τ' => .ex x (fixT τ τ')
  | _ => .no
theorem Paired.len {α β : Type} {F : α → β → Prop} : ∀ {xs : List α} {ys : List β}, Paired F xs ys → xs.length = ys.length
  | _, _, .nil => rfl
  | _, _, .cons _ t => congrArg Nat.succ (Paired.len t)
section
variable {W : Wp} {tp : Option Addr} {G G' : GH} {H H' : Hp} {τ τ' : TS'}
theorem arg_slot {v : V} {p : PV} (h : ArgR W tp G v p) : SlotR W tp G H (some v) (some p) := by
  cases p with
  | fr d => exact h
  | ow c => exact h.elim
  | tape => exact h
  | scr ns => exact h
  | fn x => exact h
  | thk => exact h.elim
theorem start_env {N : List Str} {vs : List V} {as : List PV} (s : SB W G H) (a : Paired (ArgR W tp G) vs as) (t : TapeO W G H tp τ) : EnvS W tp G H tp G H (L2.start N vs) (startP N.length as) τ := by
  have hnoow : ∀ (j : Nat) (c : OC), (startP N.length as)[j]? ≠ some (some (PV.ow c)) := by
    intro j c h
    unfold startP at h
    have hm := List.mem_of_getElem? h
    rcases List.mem_append.mp hm with q | q
    · obtain ⟨p, hp, e⟩ := List.mem_map.mp q
      cases e
      clear h hm q
      induction a with
      | nil => cases hp
      | cons h t ih =>
        rcases List.mem_cons.mp hp with z | z
        · subst z; exact h
        · exact ih z
    · have := List.eq_of_mem_replicate q
      cases this
  refine ⟨⟨s, ?_, fun i j a b c c' F F' h => (hnoow i c h).elim, t⟩, Ext.refl, fun j c b F h => (hnoow j c h).elim, .inl rfl⟩
  unfold L2.start startP
  rw [Paired.len a]
  have h1 : Paired (SlotR W tp G H) (vs.map some) (as.map some) := by
    clear hnoow
    induction a with
    | nil => exact .nil
    | cons h t ih => exact .cons (arg_slot h) ih
  have h2 : ∀ n, Paired (SlotR W tp G H) (List.replicate n none) (List.replicate n none) := by
    intro n
    induction n with
    | zero => exact .nil
    | succ n ih => exact .cons trivial ih
  have h3 : ∀ {xs xs' : List (Option V)} {ys ys' : List (Option PV)}, Paired (SlotR W tp G H) xs ys → Paired (SlotR W tp G H) xs' ys' → Paired (SlotR W tp G H) (xs ++ xs') (ys ++ ys') := by
    intro xs xs' ys ys' a b
    induction a with
    | nil => exact b
    | cons h t ih => exact .cons h ih
  exact h3 h1 (h2 _)
theorem fix_tape {tp' : Option Addr} (h : TapeO W G H tp τ) (h' : TapeO W G' H' tp' τ') (e : tp' = tp ∨ tp = none) : TapeO W G' H' tp (fixT τ τ') := by
  unfold fixT
  cases τ with
  | none =>
    cases tp with
    | none => trivial
    | some a => exact h.elim
  | some t =>
    rcases e with rfl | rfl
    · exact h'
    · exact h.elim
/-- a def's body keeps the promise -/
theorem body_ok {N : List Str} {k : Nat} {t : L2.TS} {δ : DS} {vs : List V} {Q : VK} {E : XK} (ht : DnS W (fun _ => E) t δ) (h : spP W k (bodyF N.length δ) vs H Q E) : t { nx := fun _ H' => Q .non H', rt := Q } (L2.start N vs) H := by
  obtain ⟨_, tp, G, as, τ, s, a, tt, h⟩ := h
  refine ht _ _ _ _ _ _ _ _ _ _ (start_env (N := N) s a tt) ?_
  unfold bodyF at h
  revert h
  match δ (startP N.length as) τ with
  | .ok (.rt d) τ' => exact fun h v tp' G' H' e s' t' q r => h v G' H' e s' (fix_tape tt t' q) r
  | .ok (.nx ρ) τ' => exact fun h tp' G' H' σ' s' E' => h .non G' H' E'.e E'.v.g (fix_tape tt E'.v.t (E'.t.imp id fun z => z.1)) .non
  | .ok (.xc x ρ) τ' => exact fun h d tp' G' H' σ' s' E' hx => h d G' H' E'.e E'.v.g (fix_tape tt E'.v.t (E'.t.imp id fun z => z.1)) hx
  | .ok (.bk ρ) τ' => exact fun h => h.elim
  | .ok (.ro ρ) τ' => exact fun h => h.elim
  | .ok (.ct ρ) τ' => exact fun h => h.elim
  | .ex x τ' => exact fun h => h.elim
  | .no => exact fun h => h.elim
def dpNil : DPs := fun _ τ => .ok [] τ
def dpCons (a : DP) (r : DPs) : DPs := fun ρ τ => (a ρ τ).bind fun x τ1 => (r ρ τ1).bind fun xs τ2 => .ok (x :: xs) τ2
def dpE (a : DE) : DP := fun ρ τ => (a ρ τ).bind fun x τ1 => .ok (.fr x) τ1
def dpT (i : Nat) : DP := fun ρ τ => match ρ[i]? with
  | some (some .tape) => .ok .tape τ
  | some (some (.scr ns)) => .ok (.scr ns) τ
  | _ => .no
variable {Wx : L2.St → XK} {ta : TE} {tr : TA} {δa : DE} {δp : DP} {δr : DPs}
theorem dp_e (ha : Dn W Wx ta δa) : DnP W Wx ta (dpE δa) := fun tp G H σ ρ τ Q E P =>
  ha _ _ _ _ _ _ _ E (P.bind fun a τ1 x G1 H1 e1 E1 r1 P1 => P1 x G1 H1 Ext.refl E1 r1)
theorem dp_t {i : Nat} : DnP W Wx (tVar i) (dpT i) := fun tp G H σ ρ τ Q E P => by
  unfold dpT at P
  split at P
  · rename_i h
    obtain ⟨x, h1, h2⟩ := Paired.getL E.s h
    cases x with
    | none => exact h2.elim
    | some v => exact ⟨v, h1, P v G H Ext.refl E h2⟩
  · rename_i ns h
    obtain ⟨x, h1, h2⟩ := Paired.getL E.s h
    cases x with
    | none => exact h2.elim
    | some v => exact ⟨v, h1, P v G H Ext.refl E h2⟩
  · exact P.elim
theorem dps_nil : DnPs W Wx tNil dpNil := fun tp G H σ ρ τ Q E P => P [] G H Ext.refl E .nil
theorem ArgR.mono {v : V} {p : PV} (h : ArgR W tp G v p) (s : GS G G') : ArgR W tp G' v p := by
  cases p with
  | fr d => exact Rp.mono s h
  | ow c => exact h
  | tape => exact h
  | scr ns => obtain ⟨a, r, q⟩ := h; exact ⟨a, r, s.seq q⟩
  | fn x => exact h
  | thk => exact h
theorem args_mono {vs : List V} {ps : List PV} (h : Paired (ArgR W tp G) vs ps) (s : GS G G') : Paired (ArgR W tp G') vs ps := by
  induction h with
  | nil => exact .nil
  | cons h t ih => exact .cons (h.mono s) ih
theorem dps_cons (ha : DnP W Wx ta δp) (hr : DnPs W Wx tr δr) : DnPs W Wx (tCons ta tr) (dpCons δp δr) := fun tp G H σ ρ τ Q E P =>
  ha _ _ _ _ _ _ _ E (P.bind fun a τ1 x G1 H1 e1 E1 r1 P1 => hr _ _ _ _ _ _ _ E1 (P1.bind fun b τ2 y G2 H2 e2 E2 r2 P2 => P2 _ G2 H2 Ext.refl E2 (.cons (r1.mono e2.g) r2)))
theorem paired_app {α β : Type} {F : α → β → Prop} {xs xs' : List α} {ys ys' : List β} (a : Paired F xs ys) (b : Paired F xs' ys') : Paired F (xs ++ xs') (ys ++ ys') := by
  induction a with
  | nil => exact b
  | cons h t ih => exact .cons h ih
/-- f(x, ..), what it raises leaves -/
def dCallP (k : Nat) (F : Fn) (dv : List PV) (a : DPs) : DE := fun ρ τ => (a ρ τ).bind fun as τ1 => if as.length + dv.length = k then F (as ++ dv) τ1 else .no
def dCallN (k : Nat) (F : Fn) (dv : List PV) (a : DPs) : DE := fun ρ τ => (a ρ τ).bind fun as τ1 => if as.length + dv.length = k then (F (as ++ dv) τ1).nox else .no
theorem FnPost.of {Q : VK} {σ : L2.St} {ρ : PEnv} {r : R DD} (E1 : EnvV W tp G H σ ρ τ) (P : Pg W Wx (rE W) tp σ ρ G H Q r) : FnPost W tp G H Q (Wx σ) r := by
  cases r with
  | ok d τ' => exact fun v G' H' e s t r => P v G' H' e (E1.ext e s t) r
  | ex x τ' => exact fun d G' H' e s t hx => P d G' H' e (E1.ext e s t) hx
  | no => exact P
theorem dn_call {k : Nat} {F : Fn} {dvs : List V} {dv : List PV} (hd : ∀ tp G, Paired (ArgR W tp G) dvs dv) (ha : DnPs W Wx tr δr) : Dn W Wx (tCallE (spP W k F) dvs Wx tr) (dCallP k F dv δr) := fun tp G H σ ρ τ Q E P =>
  ha _ _ _ _ _ _ _ E (P.bind fun as τ1 vs G1 H1 e1 E1 r1 P1 => by
    by_cases h : as.length + dv.length = k
    · rw [if_pos h] at P1
      exact ⟨by rw [List.length_append, Paired.len r1, Paired.len (hd tp G1)]; exact h, tp, G1, _, τ1, E1.g, paired_app r1 (hd tp G1), E1.t, FnPost.of E1 P1⟩
    · rw [if_neg h] at P1
      exact P1.elim)
theorem dn_callN {k : Nat} {F : Fn} {dvs : List V} {dv : List PV} (hd : ∀ tp G, Paired (ArgR W tp G) dvs dv) (ha : DnPs W Wx tr δr) : Dn W Wx (tCallE (spP W k F) dvs W0 tr) (dCallN k F dv δr) := fun tp G H σ ρ τ Q E P =>
  ha _ _ _ _ _ _ _ E (P.bind fun as τ1 vs G1 H1 e1 E1 r1 P1 => by
    by_cases h : as.length + dv.length = k
    · rw [if_pos h] at P1
      refine ⟨by rw [List.length_append, Paired.len r1, Paired.len (hd tp G1)]; exact h, tp, G1, _, τ1, E1.g, paired_app r1 (hd tp G1), E1.t, ?_⟩
      revert P1
      cases F (as ++ dv) τ1 with
      | ok d τ' => exact fun P1 v G' H' e s t r => P1 v G' H' e (E1.ext e s t) r
      | ex x τ' => exact fun P1 => P1.elim
      | no => exact fun P1 => P1.elim
    · rw [if_neg h] at P1
      exact P1.elim)
/-- f(.., k=x ..) -/
def dCallKP (k n m : Nat) (F : Fn) (g : List PV → List PV → List PV) (a b : DPs) : DE := fun ρ τ => (a ρ τ).bind fun as τ1 => (b ρ τ1).bind fun bs τ2 => if as.length = n ∧ bs.length = m ∧ (g as bs).length = k then F (g as bs) τ2 else .no
def dCallKN (k n m : Nat) (F : Fn) (g : List PV → List PV → List PV) (a b : DPs) : DE := fun ρ τ => (a ρ τ).bind fun as τ1 => (b ρ τ1).bind fun bs τ2 => if as.length = n ∧ bs.length = m ∧ (g as bs).length = k then (F (g as bs) τ2).nox else .no
end
end Np
set_option Elab.async false
set_option linter.all false
set_option maxRecDepth 100000
set_option maxHeartbeats 4000000
namespace Np
open PySem PySem.Spec PyProof.Rows L2
def tauAt (t : Tau) : Int → Option DD
  | 0 => some (.lst (t.cells.map DD.int))
  | 1 => some (.int t.at')
  | 2 => some (.int t.left)
  | _ => none
def tauPut (t : Tau) : Int → Int → Option Tau
  | 1, n => some { t with at' := n }
  | 2, n => some { t with left := n }
  | _, _ => none
def dTp (i : Nat) (k : Int) : DE := fun ρ τ => match ρ[i]?, τ with
  | some (some .tape), some t => R.of (some t) (tauAt t k)
  | _, _ => .no
def dTpPut (i : Nat) (k : Int) (e : DE) : DS := fun ρ τ => stE (e ρ τ) ρ fun d τ1 => match ρ[i]?, τ1, d with
  | some (some .tape), some t, .int n => match tauPut t k n with
    | some t' => .ok (.nx ρ) (some t')
    | none => .no
  | _, _, _ => .no
section
variable {W : Wp} {Wx : L2.St → XK} {tp0 tp tp' : Option Addr} {G0 G G' : GH} {H0 H H' : Hp} {σ : L2.St} {ρ : PEnv} {τ τ' : TS'} {D : Ends} {te : TE} {δe : DE}
theorem EnvV.getT {i : Nat} {t : Tau} (E : EnvV W tp G H σ ρ (some t)) (hi : ρ[i]? = some (some PV.tape)) : ∃ a c, tp = some a ∧ σ[i]? = some (some (V.ref a)) ∧ G c = some (.lst (t.cells.map V.int)) ∧ H a = some (W.tk t c) ∧ G a = none := by
  obtain ⟨v, h1, h2⟩ := Paired.getL E.s hi
  cases v with
  | none => exact h2.elim
  | some v =>
    obtain ⟨a, rfl, rfl⟩ := h2
    have t : TapeR W G H a t := E.t
    obtain ⟨c, hc, h⟩ := t.c
    exact ⟨a, c, rfl, h1, hc, h, t.g⟩
/-- a cell that may change, changed -/
theorem EnvV.mutM {a p : Addr} {o : HO} {τ : TS'} {t' : Tau} (E : EnvV W (some a) G H σ ρ τ) (hp : p = a ∨ (p ∈ G.ads ∧ G.hp p = none)) (t : TapeR W G (upd H p o) a t') (np : NT H p) : EnvV W (some a) G (upd H p o) σ ρ (some t') := by
  have g : G.hp p = none := by
    rcases hp with rfl | hp
    · exact t.g
    · exact hp.2
  have nm : ∀ {F : List Addr}, (∀ q ∈ F, G.hp q = none ∧ NoM (some a) G q) → ∀ q ∈ F, q ≠ p := fun gn q hq z => by
    rcases hp with h | h
    · exact ((gn q hq).2 a rfl).1 (by rw [z, h])
    · exact ((gn q hq).2 a rfl).2 (by rw [z]; exact h.1)
  have bk : ∀ {i : Nat} {b : Addr} {d : OC} {F : List Addr}, ρ[i]? = some (some (PV.ow d)) → σ[i]? = some (some (V.ref b)) → OwR W G (upd H p o) b d F → OwR W G H b d F := fun {i b d F} h1 h2 w => by
    obtain ⟨F1, w1, gn⟩ := E.own h1 h2
    have w2 : OwR W G (upd H p o) b d F1 := w1.keep (GS.refl _) fun q hq o h => by rw [upd_ne (nm gn q hq)]; exact h
    rw [w.uniq w2]
    exact w1
  refine ⟨E.g.put g np, Paired.mapI E.s fun j v q hv hq h => ?_, fun i j b1 b2 c1 c2 F1 F2 h1 h2 h3 h4 w1 w2 => E.d i j b1 b2 c1 c2 F1 F2 h1 h2 h3 h4 (bk h1 h3 w1) (bk h2 h4 w2), t⟩
  match v, q, h with
  | _, none, _ => cases v <;> trivial
  | some v, some (.fr d), h => exact h
  | some v, some (.ow c), ⟨b, F, r, w, gn⟩ => exact ⟨b, F, r, w.keep (GS.refl _) fun q hq o h => by rw [upd_ne (nm gn q hq)]; exact h, gn⟩
  | some v, some .tape, h => exact h
  | some v, some (.scr ns), h => exact h
  | some v, some (.fn x), h => exact h
  | some v, some .thk, ⟨f, c, q, g, a1, b, s, n, h⟩ => exact ⟨f, c, q, g, a1, b, s, n, by rw [upd_ne (code_ne h np)]; exact h⟩
theorem EnvS.mutM {a p : Addr} {o : HO} {τ : TS'} {t' : Tau} (E : EnvS W tp0 G0 H0 (some a) G H σ ρ τ) (hp : p = a ∨ (p ∈ G.ads ∧ G.hp p = none)) (t : TapeR W G (upd H p o) a t') (np : NT H p) : EnvS W tp0 G0 H0 (some a) G (upd H p o) σ ρ (some t') := by
  have t0 : some a = tp0 := by
    rcases E.t with h | ⟨_, h⟩
    · exact h
    · exact h.elim
  refine ⟨E.v.mutM hp t np, ⟨E.e.g, fun q u n tb h => ?_, E.e.f, fun q hq => ?_, E.e.w, E.e.z⟩, fun j c1 b F h1 h2 w1 => ?_, E.t⟩
  · rw [upd_ne (fun z => ?_)]
    · exact E.e.h q u n tb h
    · rcases hp with q1 | q1
      · exact (n a t0.symm).1 (by rw [z, q1])
      · rcases E.e.w p q1.1 with q2 | q2
        · exact (n a t0.symm).2 (by rw [z]; exact q2)
        · rw [z, q2] at h; cases h
  · by_cases z : q = p
    · rw [z, upd_same]; simp
    · rw [upd_ne z]; exact E.e.x q hq
  · obtain ⟨F1, w2, gn⟩ := E.v.own h1 h2
    have w3 : OwR W G (upd H p o) b c1 F1 := w2.keep (GS.refl _) fun q hq o h => by
      rw [upd_ne (fun z => ?_)]
      · exact h
      · rcases hp with q1 | q1
        · exact ((gn q hq).2 a rfl).1 (by rw [z, q1])
        · exact ((gn q hq).2 a rfl).2 (by rw [z]; exact q1.1)
    rw [w1.uniq w3]
    exact E.o j c1 b F1 h1 h2 w2
theorem StR.put {a p : Addr} {o : HO} {st : List Nd} (t : StR W G H a st) (n : p ∉ G.ads) : StR W G (upd H p o) a st :=
  t.keep (GS.refl _) rfl (fun _ _ z => z) fun b hb u h => by rw [upd_ne (fun z => n (by rw [← z]; exact hb))]; exact h
theorem EnvS.putT {a c : Addr} {t t' : Tau} (E : EnvS W tp0 G0 H0 (some a) G H σ ρ (some t)) (hc : G c = some (.lst (t'.cells.map V.int))) (hst : t'.st = t.st) (hn : (W.tk t' c).nt = true) : EnvS W tp0 G0 H0 (some a) G (upd H a (W.tk t' c)) σ ρ (some t') := by
  have t0 : TapeR W G H a t := E.v.t
  exact E.mutM (.inl rfl) ⟨t0.g, ⟨c, hc, upd_same⟩, ⟨_, upd_same, hn⟩, by rw [hst]; exact t0.s.put t0.s.t⟩ t0.n
def cells0 (ns : List Int) : List Int := cutL ns none (some 63)
theorem cells0_eq (ns : List Int) : cutV (ns.map V.int) none (some 63) = (cells0 ns).map V.int := by
  unfold cutV cells0 cutL
  rw [List.length_map, ← List.map_drop, ← List.map_take]
def spTape (W : Wp) : Sp := fun vs H Q _ => ∃ (a : Addr) (ns : List Int), vs = [.ref a] ∧ SqL W.K H a (ns.map V.int) ∧ ∀ c p H', Same H H' → H c = none → H p = none → c ≠ p → H' c = some (.lst ((cells0 ns).map V.int)) → H' p = some (W.tk ⟨cells0 ns, 0, 0, []⟩ c) → Q (.ref p) H'
def dMkT (i j : Nat) : DS := fun ρ τ => match ρ[j]?, τ with
  | some (some (.scr ns)), none => .ok (.nx (ρ.set i (some .tape))) (some ⟨cells0 ns, 0, 0, []⟩)
  | _, _ => .no
/-- the heap but for the tables -/
def noTab (H : Hp) : GH := ⟨fun q => match H q with
  | some o => if o.tb = true then none else some o
  | none => none, []⟩
theorem noTab_same (H : Hp) : Same (noTab H).hp H := fun q o h => by
  unfold noTab at h
  dsimp only at h
  split at h
  · split at h
    · cases h
    · rename_i e _; rw [e]; exact h
  · cases h
theorem noTab_at {H : Hp} {q : Addr} {o : HO} (h : H q = some o) (t : o.tb = false) : (noTab H).hp q = some o := by
  unfold noTab
  dsimp only
  rw [h]
  simp [t]
theorem noTab_sb {W : Wp} {H : Hp} (t : LamX.Tabs W.T H) : SB W (noTab H) H := ⟨noTab_same H, t, fun p hp => by
  obtain ⟨ps, e, _⟩ := t p hp
  unfold noTab
  dsimp only
  rw [e]
  rfl⟩
theorem noTab_seq {K : PySem.W.Frag} {H : Hp} {a : Addr} {xs : List V} (h : SqL K H a xs) : SqL K (noTab H).hp a xs := by
  rcases h with (h | ⟨o, h⟩) | h
  · exact .inl (.inl (noTab_at h rfl))
  · exact .inl (.inr ⟨o, noTab_at h rfl⟩)
  · exact .inr h
theorem law_ok {N : List Str} {t : L2.TS} {i : Nat} {E' : L2.St → XK} {δ : DS} {vs : List V} {Q : VK} {E : XK} (hnt : ∀ τ c, (W.tk τ c).nt = true) (hl : ∀ ns : List Int, ns.length ≤ 63 → ∃ τ, bodyF N.length (dSeq (dMkT i 0) δ) [.scr ns] none = .ok (.bl true) τ) (ht : DnS W (fun _ => E) t δ) (hT : LamX.Tabs W.T H) (h : spL W.K vs H Q E) :
    tSeq (tAsg (tCallE (spTape W) [] E' (tCons (tVar 0) tNil)) (gName i)) t { nx := fun _ H' => Q .non H', rt := Q } (L2.start N vs) H := by
  obtain ⟨a, ns, rfl, hs, hn, k⟩ := h
  obtain ⟨τ, e⟩ := hl ns hn
  have s0 := noTab_sb (W := W) hT
  have E0 := (start_env (N := N) (vs := [.ref a]) (as := [.scr ns]) (tp := none) (τ := none) s0 (.cons ⟨a, rfl, noTab_seq hs⟩ .nil) trivial).v
  have h0 : (startP N.length [.scr ns])[0]? = some (some (.scr ns)) := rfl
  have h1 : (L2.start N [V.ref a])[0]? = some (some (V.ref a)) := rfl
  refine ⟨_, h1, a, ns, rfl, hs, fun c p H' s hc hp ne h3 h4 => ?_⟩
  have gc := s0.free hc
  have gp := s0.free hp
  generalize hG : noTab H = G at *
  have hGa : G.ads = [] := by rw [← hG]; rfl
  have s1 : GS G (G.upd c (.lst ((cells0 ns).map V.int))) := GS.new gc
  have E1 : EnvV W (some p) (G.upd c (.lst ((cells0 ns).map V.int))) H' (L2.start N [V.ref a]) (startP N.length [.scr ns]) (some ⟨cells0 ns, 0, 0, []⟩) := by
    refine ⟨(s0.trans s).frz h3 rfl, Paired.mapI E0.s fun k v q hv hq h => ?_, fun i j b1 b2 c1 c2 F1 F2 h1 h2 h3 h4 w1 w2 => E0.d i j b1 b2 c1 c2 F1 F2 h1 h2 h3 h4 (E0.back s1 (fun q o _ h => s q o h) h1 h3 w1) (E0.back s1 (fun q o _ h => s q o h) h2 h4 w2), ?_, ⟨c, upd_same, h4⟩, ⟨_, h4, hnt _ _⟩, ⟨by rw [show (G.upd c (.lst ((cells0 ns).map V.int))).ads = [] from hGa]; rfl, by rw [show (G.upd c (.lst ((cells0 ns).map V.int))).ads = [] from hGa]; exact List.nodup_nil, by rw [show (G.upd c (.lst ((cells0 ns).map V.int))).ads = [] from hGa]; simp, fun k nd b h => by simp at h, fun k nd b h => by simp at h⟩⟩
    · match v, q, h with
      | _, none, _ => cases v <;> trivial
      | some v, some (.fr d), h => exact Rp.mono s1 h
      | some v, some (.ow o), ⟨b, F, r, w, gn⟩ =>
        refine ⟨b, F, r, w.keep s1 fun q _ o h => s q o h, fun q hq => ⟨by show upd G.hp c _ q = none; rw [upd_ne (fun z => w.at q hq (by rw [z]; exact hc))]; exact (gn q hq).1, fun z hz => ?_⟩⟩
        cases hz
        exact ⟨fun z => w.at q hq (by rw [z]; exact hp), by show q ∉ G.ads; rw [hGa]; simp⟩
      | some v, some .tape, ⟨b, z, _⟩ => exact nomatch z
      | some v, some (.scr ns), ⟨b, r, q⟩ => exact ⟨b, r, s1.seq q⟩
      | some v, some (.fn x), h => exact h
      | some v, some .thk, ⟨f, c1, q, g, a1, b, sg, n, h⟩ => exact ⟨f, c1, q, g, a1, b, sg.trans s1, fun z hz => by cases hz; exact ⟨fun z => (by rw [z, hp] at h; cases h), (by show c1 ∉ G.ads; rw [hGa]; simp)⟩, s _ _ h⟩
    · show upd G.hp c _ p = none
      rw [upd_ne (fun z => ne z.symm)]
      exact gp
  have E2 := E1.setS (i := i) (v := some (.ref p)) (p := some .tape) ⟨p, rfl, rfl⟩ fun _ z => by cases z
  refine ht (some p) _ H' (some p) _ H' _ _ _ _ ⟨E2, Ext.refl, fun j c b F h => ?_, .inl rfl⟩ ?_
  · intro h2 w
    obtain ⟨x, y⟩ := Sub.set (σ := L2.start N [V.ref a]) (ρ := startP N.length [.scr ns]) (i := i) (v := some (V.ref p)) (p := some PV.tape) (fun _ z => by cases z) j c b h h2
    exfalso
    have hm := List.mem_of_getElem? x
    unfold startP at hm
    rcases List.mem_append.mp hm with q | q
    · simp at q
    · have := List.eq_of_mem_replicate q
      cases this
  · unfold bodyF dSeq dMkT at e
    rw [h0] at e
    dsimp only at e
    revert e
    match δ ((startP N.length [.scr ns]).set i (some .tape)) (some ⟨cells0 ns, 0, 0, []⟩) with
    | .ok (.rt d) τ' => exact fun e v tp' G' H' _ _ _ _ r => by cases e; cases r; exact k H'
    | .ok (.nx ρ) τ' => exact fun e => by cases e
    | .ok (.xc x ρ) τ' => exact fun e => by cases e
    | .ok (.bk ρ) τ' => exact fun e => by cases e
    | .ok (.ro ρ) τ' => exact fun e => by cases e
    | .ok (.ct ρ) τ' => exact fun e => by cases e
    | .ex x τ' => exact fun e => by cases e
    | .no => exact fun e => by cases e
def dRaise (cls : Str) (names : List Str) (a : DA) : DS := fun ρ τ => stE (a ρ τ) ρ fun ds τ1 => if ds.length = names.length ∧ ds.length ≤ 1000 then .ok (.xc ⟨cls, (names.zip ds).reverse⟩ ρ) τ1 else .no
theorem RpF.append : ∀ {v v' : List (Str × V)} {d d' : List (Str × DD)}, RpF W.K W.cm G v d → RpF W.K W.cm G v' d' → RpF W.K W.cm G (v ++ v') (d ++ d')
  | _, _, _, _, .nil, s => s
  | _, _, _, _, .cons h r, s => .cons h (RpF.append r s)
theorem RpF.reverse : ∀ {v : List (Str × V)} {d : List (Str × DD)}, RpF W.K W.cm G v d → RpF W.K W.cm G v.reverse d.reverse
  | _, _, .nil => .nil
  | _, _, .cons h r => by
    rw [List.reverse_cons, List.reverse_cons]
    exact (RpF.reverse r).append (.cons h .nil)
theorem RpF.zip : ∀ (ns : List Str) {v : List V} {d : List DD}, RpA W.K W.cm G v d → RpF W.K W.cm G (ns.zip v) (ns.zip d)
  | [], _, _, _ => .nil
  | _ :: _, _, _, .nil => .nil
  | n :: ns, _, _, .cons h r => .cons h (RpF.zip ns r)
theorem ds_raise {ta : TA} {δa : DA} {cls : Str} {C : Addr} {names : List Str} (hC : W.cm cls = C) (ha : DnA W Wx ta δa) : DnS W Wx (fun _ σ H => tMkO C (spInit C names) [] ta σ H fun cls d H' => Wx σ cls d H') (dRaise cls names δa) := fun tp0 G0 H0 tp G H σ ρ τ D E P =>
  ha _ _ _ _ _ _ _ E.v (P.bind E fun ds τ1 vs G1 H1 E1 e1 r1 P1 => by
    by_cases h : ds.length = names.length ∧ ds.length ≤ 1000
    · rw [if_pos h] at P1
      refine mk_tail (by rw [r1.length]; exact h.1) (by rw [r1.length]; exact h.2) fun d nd => ?_
      rw [← hC]
      exact P1 d tp (G1.upd d (.xd (names.zip vs).reverse)) _ σ (GS.new (E1.v.g.free nd)) (E1.step (Ext.new nd E1.v.g) (E1.v.new nd)) ⟨_, upd_same, ((RpF.zip names r1).reverse).mono (GS.new (E1.v.g.free nd))⟩
    · rw [if_neg h] at P1
      exact P1.elim)
end
end Np
set_option Elab.async false
set_option linter.all false
set_option maxRecDepth 100000
set_option maxHeartbeats 4000000
namespace Np
open PySem PySem.Spec PyProof.Rows L2
section
variable {W : Wp} {Wx : L2.St → XK} {tp0 tp tp' : Option Addr} {G0 G G' : GH} {H0 H H' : Hp} {σ : L2.St} {ρ : PEnv} {τ τ' : TS'} {D : Ends} {te ta tb : TE} {δe δa δb : DE} {tr : TA} {δr : DA}
def gNeg : DD → Option DD
  | .int i => some (.int (-i))
  | _ => none
def dListF (a : DA) : PEnv → TS' → R OC := fun ρ τ => (a ρ τ).bind fun x τ1 => match x with
  | [d] => match items? d with
    | some ds => .ok (.lst ds) τ1
    | none => .no
  | _ => .no
def dOpF (g : DD → DD → Option DD) (a b : DE) : PEnv → TS' → R OC := fun ρ τ => (a ρ τ).bind fun x τ1 => (b ρ τ1).bind fun y τ2 => match g x y with
  | some (.lst cs) => .ok (.lst cs) τ2
  | _ => .no
theorem PgF.mono {Q Q' : VK} {r : R OC} (P : PgF W Wx tp σ ρ G H Q r) (k : ∀ p H', H p = none → Q (.ref p) H' → Q' (.ref p) H') : PgF W Wx tp σ ρ G H Q' r := by
  cases r with
  | ok c τ => exact fun p F G' H' e E w fr => k p H' (fr p w.mem).1 (P p F G' H' e E w fr)
  | ex x τ => exact P
  | no => exact P
/-- a new thing that no slot has yet -/
structure Held (W : Wp) (tp : Option Addr) (G : GH) (H : Hp) (σ : L2.St) (ρ : PEnv) (p : Addr) (c : OC) (F : List Addr) : Prop where
  w : OwR W G H p c F
  fr : ∀ q ∈ F, G q = none ∧ NoM tp G q
  no : ∀ q ∈ F, FreeP W G H σ ρ q
theorem Held.ext {p : Addr} {c : OC} {F : List Addr} (h : Held W tp G H σ ρ p c F) (E : EnvV W tp G H σ ρ τ) (e : Ext tp G H G' H') : Held W tp G' H' σ ρ p c F :=
  ⟨h.w.ext h.fr e, fun q hq => ⟨e.f q (h.fr q hq).2 (h.w.nt q hq) (h.fr q hq).1, e.nom (h.fr q hq).2 (h.w.at q hq)⟩, fun q hq => (h.no q hq).ext E e⟩
theorem EnvS.setH {i : Nat} {p : Addr} {c : OC} {F : List Addr} (E : EnvS W tp0 G0 H0 tp G H σ ρ τ) (h : Held W tp G H σ ρ p c F) (n0 : ∀ q ∈ F, H0 q = none) : EnvS W tp0 G0 H0 tp G H (σ.set i (some (.ref p))) (ρ.set i (some (.ow c))) τ := E.setO h.w h.fr h.no n0
variable {φ ψ : PEnv → TS' → R OC}
theorem dnF_run (he : DnF W Wx te φ) (E : EnvS W tp0 G0 H0 tp G H σ ρ τ) {f : OC → TS' → R Ct} {Q : VK} (P : Ps W Wx tp0 G0 H0 G D (stE (φ ρ τ) ρ f))
    (k : ∀ c τ1 p F G1 H1, EnvS W tp0 G0 H0 tp G1 H1 σ ρ τ1 → Ext tp G H G1 H1 → Held W tp G1 H1 σ ρ p c F → (∀ q ∈ F, H q = none ∧ H0 q = none) → Ps W Wx tp0 G0 H0 G1 D (f c τ1) → Q (.ref p) H1) : te σ H Q := by
  refine he _ _ _ _ _ _ _ E.v ?_
  cases h : φ ρ τ with
  | no => rw [h] at P; exact P.elim
  | ex x τ1 => rw [h] at P; exact fun d G1 H1 e1 E1 hx => P d tp G1 H1 σ e1.g (E.step e1 E1) hx
  | ok c τ1 =>
    rw [h] at P
    exact fun p F G1 H1 e1 E1 w fr => k c τ1 p F G1 H1 (E.step e1 E1) e1 ⟨w, fun q hq => (fr q hq).2, fun q hq => (E.v.noO (fr q hq).1).ext E.v e1⟩ (fun q hq => ⟨(fr q hq).1, E.freeT (fr q hq).1⟩) (Ps.shift (r := f c τ1) P e1.g)
def dParOO (i j : Nat) (a b : PEnv → TS' → R OC) : DS := fun ρ τ => stE (a ρ τ) ρ fun x τ1 => stE (b ρ τ1) ρ fun y τ2 => .ok (.nx ((ρ.set i (some (.ow x))).set j (some (.ow y)))) τ2
theorem ds_parOO {i j : Nat} (ha : DnF W Wx ta φ) (hb : DnF W Wx tb ψ) : DnS W Wx (tPar i j (tCons ta (tCons tb tNil))) (dParOO i j φ ψ) := fun tp0 G0 H0 tp G H σ ρ τ D E P =>
  dnF_run ha E P fun c τ1 p F G1 H1 E1 e1 h1 n1 P1 => dnF_run hb E1 P1 fun c' τ2 q F' G2 H2 E2 e2 h2 n2 P2 => by
    have h1' := h1.ext E1.v e2
    have E3 := E2.setH (i := i) h1' fun q hq => (n1 q hq).2
    refine ⟨_, _, rfl, P2 tp G2 H2 _ (GS.refl _) (E3.setH (i := j) ⟨h2.w, h2.fr, fun r hr k d b F1 a1 a2 w z => ?_⟩ fun q hq => (n2 q hq).2)⟩
    rcases set_own a1 with ⟨rfl, e⟩ | ⟨nk, a1⟩
    · cases e
      rcases set_own a2 with ⟨_, e⟩ | ⟨nk, _⟩
      · cases e
        rw [w.uniq h1'.w] at z
        exact h1.w.at r z (n2 r hr).1
      · exact nk rfl
    · rw [List.getElem?_set_ne (fun z => nk z.symm)] at a2
      exact h2.no r hr k d b F1 a1 a2 w z
def dParOF (i j : Nat) (a : PEnv → TS' → R OC) (b : DE) : DS := fun ρ τ => stE (a ρ τ) ρ fun x τ1 => stE (b ρ τ1) ρ fun y τ2 => .ok (.nx ((ρ.set i (some (.ow x))).set j (some (.fr y)))) τ2
def dParFO (i j : Nat) (a : DE) (b : PEnv → TS' → R OC) : DS := fun ρ τ => stE (a ρ τ) ρ fun x τ1 => stE (b ρ τ1) ρ fun y τ2 => .ok (.nx ((ρ.set i (some (.fr x))).set j (some (.ow y)))) τ2
end
end Np
set_option Elab.async false
set_option linter.all false
set_option maxRecDepth 100000
set_option maxHeartbeats 4000000
namespace Np
open PySem PySem.Spec PyProof.Rows L2
theorem hu_of' {k : Nat} {A : Around} (hr : Room k A) : A.units + 1 < cLine := by have := hr.un; omega
section
variable {W : Wp} {Wx : L2.St → XK} {tp0 tp tp' : Option Addr} {G0 G G' : GH} {H0 H H' : Hp} {σ : L2.St} {ρ : PEnv} {τ τ' : TS'} {D : Ends} {te ta tb tc : TE} {δe δa δb δc : DE} {tr : TA} {δr : DA} {φ ψ : PEnv → TS' → R OC} {t : L2.TS} {δ : DS}
def tkD : Tau → Addr → HO := fun τ c => .dK [(.inr "cells", .ref c), (.inr "at", .int τ.at'), (.inr "left", .int τ.left)]
inductive Pk where
  | cells | at' | left
def Pk.str : Pk → Str
  | .cells => "cells"
  | .at' => "at"
  | .left => "left"
def tauGet (t : Tau) : Pk → DD
  | .cells => .lst (t.cells.map DD.int)
  | .at' => .int t.at'
  | .left => .int t.left
def tauSet (t : Tau) : Pk → Int → Option Tau
  | .cells, _ => none
  | .at', n => some { t with at' := n }
  | .left, n => some { t with left := n }
def dTd (i : Nat) (k : Pk) : DE := fun ρ τ => match ρ[i]?, τ with
  | some (some .tape), some t => .ok (tauGet t k) (some t)
  | _, _ => .no
theorem dn_td {i : Nat} {k : Pk} (hW : W.tk = tkD) : Dn W Wx (tDGet (tVar i) (tC (.str k.str))) (dTd i k) := fun tp G H σ ρ τ Q E P => by
  unfold dTd at P
  split at P
  · rename_i t hi
    obtain ⟨a, c, rfl, ha, hc, h, g⟩ := E.getT hi
    rw [hW] at h
    have h' : H a = some (.dK [(.inr "cells", .ref c), (.inr "at", .int t.at'), (.inr "left", .int t.left)]) := h
    cases k with
    | cells => exact ⟨_, ha, a, .ref c, rfl, DGet.k (k := .inr "cells") h', P _ G H Ext.refl E (.lst hc (RpA.ints _))⟩
    | at' => exact ⟨_, ha, a, .int t.at', rfl, DGet.k (k := .inr "at") h', P _ G H Ext.refl E (.int _)⟩
    | left => exact ⟨_, ha, a, .int t.left, rfl, DGet.k (k := .inr "left") h', P _ G H Ext.refl E (.int _)⟩
  · exact P.elim
def dTdPut (i : Nat) (k : Pk) (e : DE) : DS := fun ρ τ => stE (e ρ τ) ρ fun d τ1 => match ρ[i]?, τ1, d with
  | some (some .tape), some t, .int n => match tauSet t k n with
    | some t' => .ok (.nx ρ) (some t')
    | none => .no
  | _, _, _ => .no
theorem ds_tdPut {i : Nat} {k : Pk} (hW : W.tk = tkD) (he : Dn W Wx te δe) : DnS W Wx (sDPut (tVar i) (tC (.str k.str)) te) (dTdPut i k δe) := fun tp0 G0 H0 tp G H σ ρ τ D E P =>
  he _ _ _ _ _ _ _ E.v (P.bind E fun d τ1 y G1 H1 E1 e1 r1 P1 => by
    split at P1
    · rename_i t n hi
      obtain ⟨a, c, rfl, ha, hc, h, g⟩ := E1.v.getT hi
      rw [hW] at h
      have h' : H1 a = some (.dK [(.inr "cells", .ref c), (.inr "at", .int t.at'), (.inr "left", .int t.left)]) := h
      cases k with
      | cells => exact P1.elim
      | at' =>
        have q := P1 (some a) G1 _ σ (GS.refl _) (E1.putT (t' := { t with at' := n }) (c := c) hc rfl (by rw [hW]; rfl))
        rw [hW] at q
        refine ⟨_, ha, a, _, rfl, ?_, q⟩
        rw [r1.int_of]
        exact DPut.k (k := .inr "at") (v := .int n) h' (by show 3 < sizeLine; decide)
      | left =>
        have q := P1 (some a) G1 _ σ (GS.refl _) (E1.putT (t' := { t with left := n }) (c := c) hc rfl (by rw [hW]; rfl))
        rw [hW] at q
        refine ⟨_, ha, a, _, rfl, ?_, q⟩
        rw [r1.int_of]
        exact DPut.k (k := .inr "left") (v := .int n) h' (by show 3 < sizeLine; decide)
    · exact P1.elim)
def rgOk (a b : Int) : Prop := -(2 ^ 62) ≤ a ∧ a < 2 ^ 62 ∧ -(2 ^ 62) ≤ b ∧ b < 2 ^ 62 ∧ (b - a).toNat ≤ 2 ^ 24
instance (a b : Int) : Decidable (rgOk a b) := by unfold rgOk; infer_instance
def gRgL1 : DD → Option DD
  | .int b => if rgOk 0 b then some (.lst (rangeD 0 (b - 0).toNat)) else none
  | _ => none
def gRepr (d : DD) : Option DD := match toPy d, items? d with
  | some p, some _ => if PyData.showable p = true ∧ SeqAt.shaped p = true ∧ p.shown.length ≤ sizeLine then some (.str p.shown) else none
  | _, _ => none
theorem cd_repr : CallD W (rReprD W.K) (c1 gRepr) := by
  intro G H x a c Q s ra e k
  replace e := c1_eq e
  obtain ⟨d, rfl, e⟩ := e
  cases ra with | cons r rs =>
  cases rs
  unfold gRepr at e
  split at e
  · rename_i p l h1 h2
    obtain ⟨h, rfl⟩ := ifs e
    have dp := (r.mono s.gs).dp h1
    cases r <;> first | (cases h2; done) | (exfalso; rw [toPy] at h1 <;> first | (cases h1; done) | (intros; contradiction)) | skip
    · exact ⟨_, p, rfl, dp, h.1, h.2.1, h.2.2, k _ G H ext_n s (.str _)⟩
    · exact ⟨_, p, rfl, dp, h.1, h.2.1, h.2.2, k _ G H ext_n s (.str _)⟩
  · cases e
abbrev FnO := List PV → TS' → R OC
def FnPostO (W : Wp) (tp : Option Addr) (G : GH) (H : Hp) (Q : VK) (E : XK) : R OC → Prop
  | .ok c τ' => ∀ p F G' H', Ext tp G H G' H' → SB W G' H' → TapeO W G' H' tp τ' → OwR W G' H' p c F → (∀ q ∈ F, H q = none ∧ G' q = none ∧ NoM tp G' q) → Q (.ref p) H'
  | .ex x τ' => ∀ d G' H', Ext tp G H G' H' → SB W G' H' → TapeO W G' H' tp τ' → ExR W G' H' x d → E (.ref (W.cm x.cls)) d H'
  | .no => False
def spO (W : Wp) (k : Nat) (F : FnO) : Sp := fun vs H Q E => vs.length = k ∧ ∃ tp G as τ, SB W G H ∧ Paired (ArgR W tp G) vs as ∧ TapeO W G H tp τ ∧ FnPostO W tp G H Q E (F as τ)
def bodyO (n : Nat) (δ : DS) : FnO := fun as τ => match δ (startP n as) τ with
  | .ok (.ro c) τ' => .ok c (fixT τ τ')
  | .ok (.xc x _) τ' => .ex x (fixT τ τ')
  | _ => .no
theorem body_okO {N : List Str} {k : Nat} {vs : List V} {Q : VK} {E : XK} (ht : DnS W (fun _ => E) t δ) (h : spO W k (bodyO N.length δ) vs H Q E) : t { nx := fun _ H' => Q .non H', rt := Q } (L2.start N vs) H := by
  obtain ⟨_, tp, G, as, τ, s, a, tt, h⟩ := h
  refine ht _ _ _ _ _ _ _ _ _ _ (start_env (N := N) s a tt) ?_
  unfold bodyO at h
  revert h
  match δ (startP N.length as) τ with
  | .ok (.ro c) τ' => exact fun h p F tp' G' H' e s' t' q w fr => h p F G' H' e s' (fix_tape tt t' q) w fun r hr => ⟨(fr r hr).1, (fr r hr).2.1, by rcases q with q | q; exact q ▸ (fr r hr).2.2; rw [q]; exact NoM.none⟩
  | .ok (.xc x ρ) τ' => exact fun h d tp' G' H' σ' s' E' hx => h d G' H' E'.e E'.v.g (fix_tape tt E'.v.t (E'.t.imp id fun z => z.1)) hx
  | .ok (.nx ρ) τ' => exact fun h => h.elim
  | .ok (.rt d) τ' => exact fun h => h.elim
  | .ok (.bk ρ) τ' => exact fun h => h.elim
  | .ok (.ct ρ) τ' => exact fun h => h.elim
  | .ex x τ' => exact fun h => h.elim
  | .no => exact fun h => h.elim
def dRetF (φ : PEnv → TS' → R OC) : DS := fun ρ τ => stE (φ ρ τ) ρ fun c τ1 => .ok (.ro c) τ1
theorem ds_retF (he : DnF W Wx te φ) : DnS W Wx (tRet te) (dRetF φ) := fun tp0 G0 H0 tp G H σ ρ τ D E P =>
  dnF_run he E P fun c τ1 p F G1 H1 E1 e1 h n P1 => P1 p F tp G1 H1 E1.e E1.v.g E1.v.t (E1.t.imp id fun z => z.1) h.w fun q hq => ⟨(n q hq).2, h.fr q hq⟩
variable {Tr : TA} {δp δk : DPs} {k : Nat} {F : FnO} {dvs : List V} {dv : List PV}
def dCallOP (k : Nat) (F : FnO) (dv : List PV) (a : DPs) : PEnv → TS' → R OC := fun ρ τ => (a ρ τ).bind fun as τ1 => if as.length + dv.length = k then F (as ++ dv) τ1 else .no
def dCallON (k : Nat) (F : FnO) (dv : List PV) (a : DPs) : PEnv → TS' → R OC := fun ρ τ => (a ρ τ).bind fun as τ1 => if as.length + dv.length = k then (F (as ++ dv) τ1).nox else .no
theorem FnPostO.of {Q : VK} {r : R OC} (E1 : EnvV W tp G H σ ρ τ) (P : PgF W Wx tp σ ρ G H Q r) : FnPostO W tp G H Q (Wx σ) r := by
  cases r with
  | ok c τ' => exact fun p F G' H' e s t w fr => P p F G' H' e (E1.ext e s t) w fr
  | ex x τ' => exact fun d G' H' e s t hx => P d G' H' e (E1.ext e s t) hx
  | no => exact P
theorem df_callP (hd : ∀ tp G, Paired (ArgR W tp G) dvs dv) (ha : DnPs W Wx Tr δp) : DnF W Wx (tCallE (spO W k F) dvs Wx Tr) (dCallOP k F dv δp) := fun tp G H σ ρ τ Q E P =>
  ha _ _ _ _ _ _ _ E (P.bind fun as τ1 vs G1 H1 e1 E1 r1 P1 => by
    by_cases h : as.length + dv.length = k
    · rw [if_pos h] at P1
      refine ⟨by rw [List.length_append, Paired.len r1, Paired.len (hd tp G1)]; exact h, tp, G1, _, τ1, E1.g, paired_app r1 (hd tp G1), E1.t, ?_⟩
      exact FnPostO.of E1 P1
    · rw [if_neg h] at P1
      exact P1.elim)
theorem df_callN (hd : ∀ tp G, Paired (ArgR W tp G) dvs dv) (ha : DnPs W Wx Tr δp) : DnF W Wx (tCallE (spO W k F) dvs W0 Tr) (dCallON k F dv δp) := fun tp G H σ ρ τ Q E P =>
  ha _ _ _ _ _ _ _ E (P.bind fun as τ1 vs G1 H1 e1 E1 r1 P1 => by
    by_cases h : as.length + dv.length = k
    · rw [if_pos h] at P1
      refine ⟨by rw [List.length_append, Paired.len r1, Paired.len (hd tp G1)]; exact h, tp, G1, _, τ1, E1.g, paired_app r1 (hd tp G1), E1.t, ?_⟩
      revert P1
      cases F (as ++ dv) τ1 with
      | ok c τ' => exact fun P1 p F G' H' e s t w fr => P1 p F G' H' e (E1.ext e s t) w fr
      | ex x τ' => exact fun P1 => P1.elim
      | no => exact fun P1 => P1.elim
    · rw [if_neg h] at P1
      exact P1.elim)
def dCallKON (k n m : Nat) (F : FnO) (g : List PV → List PV → List PV) (a b : DPs) : PEnv → TS' → R OC := fun ρ τ => (a ρ τ).bind fun as τ1 => (b ρ τ1).bind fun bs τ2 => if as.length = n ∧ bs.length = m ∧ (g as bs).length = k then (F (g as bs) τ2).nox else .no
/-- a new thing that stays from now on -/
def dFz (φ : PEnv → TS' → R OC) : DE := fun ρ τ => (φ ρ τ).bind fun c τ1 => .ok (ocD c) τ1
theorem dn_fz (he : DnF W Wx te φ) : Dn W Wx te (dFz φ) := fun tp G H σ ρ τ Q E P => by
  refine he _ _ _ _ _ _ _ E ?_
  unfold dFz at P
  revert P
  cases φ ρ τ with
  | ok c τ1 =>
    intro P p F G1 H1 e1 E1 w fr
    have s1 : GS G1 (upF G1 H1 F) := upF_same fun q hq => (fr q hq).2.1
    refine P (.ref p) (upF G1 H1 F) H1 ⟨e1.g.trans s1, e1.h, fun q nq hq hg => ?_, e1.x, e1.w, e1.z⟩ (E1.freezeF (fun q hq => (fr q hq).2) w.nt fun q hq => (E.noO (fr q hq).1).ext E e1) (w.rp s1 upF_in)
    rw [upF_out (fun z => hq.ne (fr q z).1)]
    exact e1.f q nq hq hg
  | ex x τ1 => exact fun P => P
  | no => exact fun P => P
def dPar3 (i j l : Nat) (a : DA) : DS := fun ρ τ => stE (a ρ τ) ρ fun ds τ1 => match ds with
  | [d, e, f] => .ok (.nx (((ρ.set i (some (.fr d))).set j (some (.fr e))).set l (some (.fr f)))) τ1
  | _ => .no
def dPar3O (i j l : Nat) (a : PEnv → TS' → R OC) (b c : DE) : DS := fun ρ τ => stE (a ρ τ) ρ fun x τ1 => stE (b ρ τ1) ρ fun y τ2 => stE (c ρ τ2) ρ fun z τ3 => .ok (.nx (((ρ.set i (some (.ow x))).set j (some (.fr y))).set l (some (.fr z)))) τ3
end
end Np
set_option Elab.async false
set_option linter.all false
set_option maxRecDepth 100000
namespace Np
open PySem L2
end Np
set_option Elab.async false
set_option linter.all false
set_option maxRecDepth 100000
set_option maxHeartbeats 4000000
namespace Np
open PySem PySem.Spec PyProof.Rows L2
section
variable {W : Wp} {Wx : L2.St → XK}
def dAsgL (e : DE) (ts : List Tg) : DS := fun ρ τ => stE (e ρ τ) ρ fun d τ1 => match d with
  | .lst ds => match tgFs ts ds ρ with
    | some ρ1 => .ok (.nx ρ1) τ1
    | none => .no
  | _ => .no
end
end Np
set_option Elab.async false
set_option linter.all false
set_option maxRecDepth 100000
set_option maxHeartbeats 4000000
namespace Np
open PySem PySem.Spec PyProof.Rows L2
section
variable {W : Wp} {Wx : L2.St → XK}
def dTryK (exm : Str → Option Bool) (i j : Nat) (δ : DS) : DS := fun ρ τ => match δ ρ τ with
  | .ok (.xc x ρ1) τ1 => match exm x.cls with
    | some true => if i < ρ1.length then .ok (.nx ((ρ1.set j (some (.fr (.exc x.cls x.fs)))).set i none)) τ1 else .no
    | some false => .ok (.xc x ρ1) τ1
    | none => .no
  | r => r
end
end Np
set_option Elab.async false
set_option linter.all false
set_option maxRecDepth 100000
set_option maxHeartbeats 4000000
namespace Np
open PySem PySem.Spec PyProof.Rows L2
section
variable {W : Wp} {Wx : L2.St → XK} {te : TE} {δ : DE}
theorem Rp.kept {K : PySem.W.Frag} {cm : CM} {G : GH} {v : V} {C : Str} {fs : List (Str × DD)} (r : Rp K cm G v (.exc C fs)) : ∃ a d xs, v = .ref a ∧ Kept G a (cm C) d xs ∧ (d = none → xs = []) ∧ RpF K cm G xs fs := by
  cases r with
  | exc h z q h2 rf => exact ⟨_, _, _, rfl, ⟨⟨_, _, h, z, q⟩, fun dd e => by subst e; exact h2⟩, fun e => by subst e; exact h2, rf⟩
def dIsX (kit : Str → Option Bool) (a : DE) : DE := fun ρ τ => (a ρ τ).bind fun x τ1 => match x with
  | .exc C _ => R.of τ1 ((kit C).map .bl)
  | _ => .no
theorem dn_isX {kit : Str → Option Bool} {c : V} {u : Value} (hc : ClsV c u) (hk : ∀ s b, kit s = some b → ExcC W.K (W.cm s) ∧ PySem.W.kitOne W.K (.ref (W.cm s)) u = some b) (he : Dn W Wx te δ) :
    Dn W Wx (tCB (rIsX W.K) (tCons te (tCons (tC c) tNil))) (dIsX kit δ) := fun tp G H σ ρ τ Q E P =>
  he _ _ _ _ _ _ _ E (P.bind fun a τ1 x G1 H1 e1 E1 r1 P1 => by
    cases a <;> first | exact P1.elim | skip
    rename_i C fs
    obtain ⟨y, hy, P2⟩ := P1.of
    obtain ⟨b, hb, rfl⟩ := Option.map_eq_some_iff.mp hy
    obtain ⟨h1, h2⟩ := hk _ _ hb
    obtain ⟨p, d, xs, rfl, kp, nz, rf⟩ := r1.kept
    exact ⟨p, _, _, _, _, _, b, rfl, kp.mono E1.g.s, h1, hc, h2, P2 _ G1 H1 Ext.refl E1 (.bl b)⟩)
/-- isinstance(kept, (c1, c2, ..)) -/
def tCs : List V → TA
  | [] => tNil
  | c :: cs => tCons (tC c) (tCs cs)
theorem tCs_run : ∀ (cs : List V) {σ : L2.St} {H : Hp} {Q : List V → Hp → Prop}, Q cs H → tCs cs σ H Q
  | [], _, _, _, h => h
  | c :: cs, _, _, _, h => tCs_run cs (Q := fun xs H2 => _) h
theorem dn_isXT {kit : Str → Option Bool} {cs : List V} {us : List Value} (hc : Paired ClsV cs us) (hz : cs.length ≤ 1000) (hk : ∀ s b, kit s = some b → ExcC W.K (W.cm s) ∧ PySem.W.kitAny W.K (.ref (W.cm s)) us = some b) (he : Dn W Wx te δ) :
    Dn W Wx (tCB (rIsXT W.K) (tCons te (tCons (tTup (tCs cs)) tNil))) (dIsX kit δ) := fun tp G H σ ρ τ Q E P =>
  he _ _ _ _ _ _ _ E (P.bind fun a τ1 x G1 H1 e1 E1 r1 P1 => by
    cases a <;> first | exact P1.elim | skip
    rename_i C fs
    obtain ⟨y, hy, P2⟩ := P1.of
    obtain ⟨b, hb, rfl⟩ := Option.map_eq_some_iff.mp hy
    obtain ⟨h1, h2⟩ := hk _ _ hb
    obtain ⟨p, d, xs, rfl, kp, nz, rf⟩ := r1.kept
    refine tCs_run cs ⟨Nat.le_trans hz (by decide), fun t nt => ?_⟩
    exact ⟨p, _, t, _, _, cs, us, b, rfl, (kp.mono E1.g.s).mono (same_new nt), h1, upd_same, hc, h2, P2 _ G1 _ (Ext.newH nt) (E1.newH nt) (.bl b)⟩)
/-- kept.field -/
def dFx (ok : Str → Bool) (f : Str) (a : DE) : DE := fun ρ τ => (a ρ τ).bind fun x τ1 => match x with
  | .exc C fs => if ok C = true then R.of τ1 (fs.lookup f) else .no
  | _ => .no
theorem RpF.look {K : PySem.W.Frag} {cm : CM} {G : GH} {f : Str} : ∀ {xs : List (Str × V)} {fs : List (Str × DD)} {d : DD}, RpF K cm G xs fs → fs.lookup f = some d → ∃ v, xs.lookup f = some v ∧ Rp K cm G v d
  | _, _, _, .nil, h => nomatch h
  | (k, v) :: vs, (_, d') :: ds, d, .cons r rs, h => by
    rw [List.lookup_cons] at h
    rw [List.lookup_cons]
    cases q : f == k with
    | true => rw [q] at h; cases h; exact ⟨v, rfl, r⟩
    | false => rw [q] at h; exact RpF.look rs h
theorem dn_fx {ok : Str → Bool} {f : Str} (hk : ∀ s, ok s = true → ExcC W.K (W.cm s) ∧ PySem.W.findIn W.K (.ref (W.cm s)) f = some none) (he : Dn W Wx te δ) :
    Dn W Wx (tFx W.K f te) (dFx ok f δ) := fun tp G H σ ρ τ Q E P =>
  he _ _ _ _ _ _ _ E (P.bind fun a τ1 x G1 H1 e1 E1 r1 P1 => by
    cases a <;> first | exact P1.elim | skip
    rename_i C fs
    by_cases ho : ok C = true
    · simp only [ho, if_true] at P1
      obtain ⟨y, hy, P2⟩ := P1.of
      obtain ⟨h1, h2⟩ := hk _ ho
      obtain ⟨p, d, xs, rfl, kp, nz, rf⟩ := r1.kept
      obtain ⟨v, hv, rv⟩ := rf.look hy
      cases d with
      | none => rw [nz rfl] at hv; cases hv
      | some d => exact ⟨p, _, d, xs, v, rfl, kp.mono E1.g.s, h1, h2, hv, P2 _ G1 H1 Ext.refl E1 rv⟩
    · simp only [ho] at P1
      exact P1.elim)
end
def tb0 : Str → Option Bool := fun _ => none
def tb (A : Str) (v : Bool) (r : Str → Option Bool) : Str → Option Bool := fun s => if s = A then some v else r s
theorem tb0_ok {P : Str → Bool → Prop} : ∀ s b, tb0 s = some b → P s b := fun _ _ h => nomatch h
theorem tb_ok {P : Str → Bool → Prop} {A : Str} {v : Bool} {r : Str → Option Bool} (h : P A v) (k : ∀ s b, r s = some b → P s b) : ∀ s b, tb A v r s = some b → P s b := fun s b q => by
  unfold tb at q
  split at q
  · rename_i e; subst e; cases q; exact h
  · exact k s b q
end Np
set_option Elab.async false
set_option linter.all false
set_option maxRecDepth 100000
set_option maxHeartbeats 4000000
namespace Np
open PySem PySem.Spec PyProof.Rows L2
section
variable {W : Wp} {Wx : L2.St → XK} {ta tb tc : TE} {δa δb δc : DE} {tr : TA} {δr : DA}
/-- x or y by truth -/
def dOrU (a b : DE) : DE := fun ρ τ => (a ρ τ).bind fun x τ1 => (R.of τ1 (tru x)).bind fun k τ2 => if k = true then .ok x τ2 else b ρ τ2
def dAndU (a b : DE) : DE := fun ρ τ => (a ρ τ).bind fun x τ1 => (R.of τ1 (tru x)).bind fun k τ2 => if k = true then b ρ τ2 else .ok x τ2
end
def bodyN (n : Nat) (δ : DS) : Fn := fun as τ => (bodyF n δ as τ).nox
theorem body_okN {W : Wp} {H : Hp} {N : List Str} {k : Nat} {t : L2.TS} {δ : DS} {vs : List V} {Q : VK} {E : XK} (ht : DnS W (fun _ _ _ _ => False) t δ) (h : spP W k (bodyN N.length δ) vs H Q E) : t { nx := fun _ H' => Q .non H', rt := Q } (L2.start N vs) H := by
  obtain ⟨l, tp, G, as, τ, s, a, tt, h⟩ := h
  refine body_ok (E := fun _ _ _ => False) ht ⟨l, tp, G, as, τ, s, a, tt, ?_⟩
  unfold bodyN at h
  revert h
  cases bodyF N.length δ as τ with
  | ok d τ' => exact fun h => h
  | ex x τ' => exact fun h => h.elim
  | no => exact fun h => h
end Np
set_option Elab.async false
set_option linter.all false
set_option maxRecDepth 100000
set_option maxHeartbeats 4000000
namespace Np
open PySem PySem.Spec PyProof.Rows L2
inductive Ix where
  | a (i : Nat) | z (i : Nat) | c (i : Nat)
def pick1 {α : Type} (dv us ws : List α) : Ix → Option α
  | .a i => us[i]?
  | .z i => ws[i]?
  | .c i => dv[i]?
def pickL {α : Type} (dv : List α) (ix : List Ix) (us ws : List α) : List α := ix.filterMap (pick1 dv us ws)
theorem paired_at {α β : Type} {R : α → β → Prop} : ∀ {xs : List α} {ys : List β}, Paired R xs ys → ∀ i : Nat, (xs[i]? = none ∧ ys[i]? = none) ∨ ∃ x y, xs[i]? = some x ∧ ys[i]? = some y ∧ R x y
  | _, _, .nil, i => .inl ⟨by simp, by simp⟩
  | _, _, .cons h t, 0 => .inr ⟨_, _, rfl, rfl, h⟩
  | _, _, .cons h t, i + 1 => by simpa using paired_at t i
theorem pick_rel {α β : Type} {R : α → β → Prop} {dv us ws : List α} {dv' us' ws' : List β} (hd : Paired R dv dv') (hu : Paired R us us') (hw : Paired R ws ws') : ∀ ix : List Ix, Paired R (pickL dv ix us ws) (pickL dv' ix us' ws')
  | [] => .nil
  | i :: ix => by
    have ih := pick_rel hd hu hw ix
    have h : (pick1 dv us ws i = none ∧ pick1 dv' us' ws' i = none) ∨ ∃ x y, pick1 dv us ws i = some x ∧ pick1 dv' us' ws' i = some y ∧ R x y := by
      cases i with
      | a i => exact paired_at hu i
      | z i => exact paired_at hw i
      | c i => exact paired_at hd i
    unfold pickL at ih ⊢
    rcases h with ⟨h1, h2⟩ | ⟨x, y, h1, h2, r⟩
    · rw [List.filterMap_cons_none h1, List.filterMap_cons_none h2]; exact ih
    · rw [List.filterMap_cons_some h1, List.filterMap_cons_some h2]; exact .cons r ih
section
variable {K : PySem.W.Frag} {x qual : Str} {f : Addr} {fd : FuncData} {ps : List Str}
theorem Fun.kbp {st : Stmt} (F : Fun K x qual st f fd) (n : Nat) (ks : List Str) (ix : List Ix)
    (h : ∀ (kV doc pm : Value) (an : Option Addr) (cdv ct : Value) (us ws : List Value), us.length = n → ws.length = ks.length → bindArgs (PySem.W.fnOf x qual (defArgs st) (defBody st) (defScope st) .none kV doc pm an cdv ct) ⟨us, ks.zip ws⟩ = pure (ps.zip (pickL [] ix us ws))) : KB K fd ps n ks (pickL [] ix) :=
  Fun.kb F n ks (fun us ws => pickL [] ix us ws) (fun r1 r2 => pick_rel .nil r1 r2 ix) h
end
section
variable {W : Wp} {Wx : L2.St → XK} {tr tk : TA} {δr δk : DPs} {dvs : List V} {dv : List PV} {ix : List Ix}
theorem dn_kwN {k n m : Nat} {F : Fn} (hd : ∀ tp G, Paired (ArgR W tp G) dvs dv) (ha : DnPs W Wx tr δr) (hk : DnPs W Wx tk δk) : Dn W Wx (tCallKE n m (spP W k F) (pickL dvs ix) W0 tr tk) (dCallKN k n m F (pickL dv ix) δr δk) := fun tp G H σ ρ τ Q E P =>
  ha _ _ _ _ _ _ _ E (P.bind fun as τ1 vs G1 H1 e1 E1 r1 P1 => hk _ _ _ _ _ _ _ E1 (P1.bind fun bs τ2 zs G2 H2 e2 E2 r2 P2 => by
    by_cases h : as.length = n ∧ bs.length = m ∧ (pickL dv ix as bs).length = k
    · rw [if_pos h] at P2
      have hp := pick_rel (hd tp G2) (args_mono r1 e2.g) r2 ix
      refine ⟨by rw [Paired.len r1]; exact h.1, by rw [Paired.len r2]; exact h.2.1, by rw [Paired.len hp]; exact h.2.2, tp, G2, _, τ2, E2.g, hp, E2.t, ?_⟩
      revert P2
      cases F (pickL dv ix as bs) τ2 with
      | ok d τ' => exact fun P1 v G' H' e s t r => P1 v G' H' e (E2.ext e s t) r
      | ex x τ' => exact fun P1 => P1.elim
      | no => exact fun P1 => P1.elim
    · rw [if_neg h] at P2
      exact P2.elim))
theorem df_kwN {k n m : Nat} {F : FnO} (hd : ∀ tp G, Paired (ArgR W tp G) dvs dv) (ha : DnPs W Wx tr δr) (hk : DnPs W Wx tk δk) : DnF W Wx (tCallKE n m (spO W k F) (pickL dvs ix) W0 tr tk) (dCallKON k n m F (pickL dv ix) δr δk) := fun tp G H σ ρ τ Q E P =>
  ha _ _ _ _ _ _ _ E (P.bind fun as τ1 vs G1 H1 e1 E1 r1 P1 => hk _ _ _ _ _ _ _ E1 (P1.bind fun bs τ2 zs G2 H2 e2 E2 r2 P2 => by
    by_cases h : as.length = n ∧ bs.length = m ∧ (pickL dv ix as bs).length = k
    · rw [if_pos h] at P2
      have hp := pick_rel (hd tp G2) (args_mono r1 e2.g) r2 ix
      refine ⟨by rw [Paired.len r1]; exact h.1, by rw [Paired.len r2]; exact h.2.1, by rw [Paired.len hp]; exact h.2.2, tp, G2, _, τ2, E2.g, hp, E2.t, ?_⟩
      revert P2
      cases F (pickL dv ix as bs) τ2 with
      | ok c τ' => exact fun P1 p F G' H' e s t w fr => P1 p F G' H' e (E2.ext e s t) w fr
      | ex x τ' => exact fun P1 => P1.elim
      | no => exact fun P1 => P1.elim
    · rw [if_neg h] at P2
      exact P2.elim))
end
theorem FnG.never {P : Program} {w : World} {K : PySem.W.Frag} {mg : Str → Option Value} {base : Heap} {CX : CXT} {k : Nat} {f : Addr} {fd : FuncData} {ps : List Str} {sp : Sp} (h : ∀ vs H Q E, sp vs H Q E → False) : FnG P w K mg base CX k f fd ps sp :=
  ⟨fun vs H Q E z => (h vs H Q E z).elim, fun A outer s H args us vs Q E _ _ _ _ _ z => (h vs H Q E z).elim⟩
section
variable {W : Wp} {Wx : L2.St → XK} {tp0 tp tp' : Option Addr} {G0 G G' : GH} {H0 H H' : Hp} {σ : L2.St} {ρ : PEnv} {τ τ' : TS'} {D : Ends} {te tk : TE} {δe δk : DE} {φ : PEnv → TS' → R OC}
/-- what is owned, as a tree -/
def ocT : OC → OT
  | .lst xs => .nd .lst (xs.map .fr)
  | .dK kvs => .nd (.dK (kvs.map (·.1))) (kvs.map fun z => .fr z.2)
  | .tr k ts => .nd k ts
def dTrF (φ : PEnv → TS' → R OC) : PEnv → TS' → R OC := fun ρ τ => (φ ρ τ).bind fun c τ1 => match ocT c with
  | .nd k ts => .ok (.tr k ts) τ1
  | .fr _ => .no
theorem OwA.len : ∀ {vs : List V} {ts : List OT} {F : List Addr}, OwA W G H vs ts F → vs.length = ts.length
  | _, _, _, .nil => rfl
  | _, _, _, .cons _ r _ => congrArg Nat.succ (OwA.len r)
/-- x.append(e), e a new thing that x then owns -/
def dAppT (i : Nat) (φ : PEnv → TS' → R OC) : DS := fun ρ τ => match ρ[i]? with
  | some (some (.ow (.tr .lst ts))) => stE (φ ρ τ) ρ fun c τ1 => if ts.length < sizeLine then .ok (.nx (ρ.set i (some (.ow (.tr .lst (ts ++ [ocT c])))))) τ1 else .no
  | _ => .no
/-- x.append(e), e as it stays -/
def dAppL (i : Nat) (e : DE) : DS := fun ρ τ => match ρ[i]? with
  | some (some (.ow (.tr .lst ts))) => stE (e ρ τ) ρ fun d τ1 => if ts.length < sizeLine then .ok (.nx (ρ.set i (some (.ow (.tr .lst (ts ++ [.fr d])))))) τ1 else .no
  | _ => .no
/-- x[k].append(e) -/
def dAppIx (i : Nat) (k e : DE) : DS := fun ρ τ => match ρ[i]? with
  | some (some (.ow (.tr .lst ts))) => stE (k ρ τ) ρ fun n τ1 => match n with
    | .int n => match ixN ts.length n with
      | some j => match ts[j]? with
        | some (.nd .lst us) => stE (e ρ τ1) ρ fun d τ2 => if us.length < sizeLine then .ok (.nx (ρ.set i (some (.ow (.tr .lst (ts.set j (.nd .lst (us ++ [.fr d])))))))) τ2 else .no
        | _ => .no
      | none => .no
    | _ => .no
  | _ => .no
end
end Np
set_option Elab.async false
set_option linter.all false
set_option maxRecDepth 100000
set_option maxHeartbeats 4000000
namespace Np
open PySem PySem.Spec PyProof.Rows L2
/-- a def behind whose call a token is out -/
structure FnT (P : Program) (w : World) (K : PySem.W.Frag) (mg : Str → Option Value) (base : Heap) (CX : CXT) (k : Nat) (f : Addr) (fd : FuncData) (ps : List Str) (sp : Sp) : Prop where
  len : ∀ vs H Q E, sp vs H Q E → vs.length = ps.length
  run : ∀ (A : Around) (outer : List Env) (s : Shared) (H : Hp) (args : Args) (us : List Value) (vs : List V) (Q : VK) (E : XK), A.guards = some [] → Room k A → Env0 P w K mg base A outer s H → BindsTo s fd args (ps.zip us) → Vals vs us → sp vs H Q E →
    codeAny (model P w) A (.call (.ref f) args) (fun r s' => (∀ fl, r = .ok fl → 1 ≤ s'.toks) ∧ CR CX outer P w H s Q E r s') s
theorem FnT.fn {P : Program} {w : World} {K : PySem.W.Frag} {mg : Str → Option Value} {base : Heap} {CX : CXT} {k : Nat} {f : Addr} {fd : FuncData} {ps : List Str} {sp : Sp} (F : FnT P w K mg base CX k f fd ps sp) : FnG P w K mg base CX k f fd ps sp :=
  ⟨F.len, fun A outer s H args us vs Q E a b c d e g => codeAny_mono (F.run A outer s H args us vs Q E a b c d e g) fun _ _ z => z.2⟩
section
variable {W : Wp} {Wx : L2.St → XK} {to : TE} {δ : DE}
def gRepl (y z : Str) : DD → Option DD
  | .str x => if x.length + (x.length + 1) * z.length ≤ 16777216 then some (.str (Txt.replace x y z)) else none
  | _ => none
end
end Np
set_option Elab.async false
set_option linter.all false
set_option maxRecDepth 100000
set_option maxHeartbeats 4000000
namespace Np
open PySem PySem.Spec PyProof.Rows L2
section
variable {W : Wp} {Wx : L2.St → XK} {tr tk : TA} {δr δk : DA}
/-- which object -/
def mkD (cls : Str) (names : List Str) (ix : List Ix) (as bs : List DD) : DD := .obj cls (names.zip (pickL [] ix as bs))
def dMkN (n m : Nat) (cls : Str) (names : List Str) (ix : List Ix) (a b : DA) : DE := fun ρ τ => (a ρ τ).bind fun as τ1 => (b ρ τ1).bind fun bs τ2 =>
  if as.length = n ∧ bs.length = m ∧ (pickL [] ix as bs).length = names.length then .ok (mkD cls names ix as bs) τ2 else .no
/-- o.field -/
def dFld (cls : Str) (f : Str) (a : DE) : DE := fun ρ τ => (a ρ τ).bind fun x τ1 => match x with
  | .obj C fs => if C = cls then R.of τ1 (fs.lookup f) else .no
  | _ => .no
end
section
variable {W : Wp} {Wx : L2.St → XK} {tr tk : TA} {δr δk : DA}
def enumF (k0 : Int) (ds : List DD) : List DD := ds.mapIdx fun i d => DD.tup [.int (k0 + (i : Nat)), d]
def dIEnumF (a b : DA) : DI := fun ρ τ => (a ρ τ).bind fun x τ1 => (b ρ τ1).bind fun y τ2 => match x, y with
  | [.lst ds], [.int k0] => if -(2 ^ 63) ≤ k0 ∧ k0 < 2 ^ 63 then .ok (enumF k0 ds) τ2 else .no
  | _, _ => .no
def rangeC (lo c : Int) (n : Nat) : List DD := (List.range n).map fun (i : Nat) => DD.int (lo + i * c)
instance (i j c : Int) (n : Nat) : Decidable (RgC i j c n) := by unfold RgC; infer_instance
def dIR3 (a : DA) : DI := fun ρ τ => (a ρ τ).bind fun x τ1 => match x with
  | [.int i, .int j, .int c] => if RgC i j c (Builtin.Range.rangeSize i j c).toNat then .ok (rangeC i c (Builtin.Range.rangeSize i j c).toNat) τ1 else .no
  | _ => .no
end
def c3 (g : DD → DD → DD → Option DD) : List DD → Option DD
  | [a, b, c] => g a b c
  | _ => none
def min3 (i j k : Int) : Int := if k < (if j < i then j else i) then k else if j < i then j else i
def gMin3 : DD → DD → DD → Option DD
  | .int i, .int j, .int k => some (.int (min3 i j k))
  | _, _, _ => none
end Np
set_option Elab.async false
set_option linter.all false
set_option maxRecDepth 100000
set_option maxHeartbeats 4000000
namespace Np
open PySem PySem.Spec PyProof.Rows L2 PySem.HandSPX
/-- the __init__ that a builtin class has of its own -/
structure IniF (B initId : String) : Prop where
  pl : plainId initId = true
  en : entryFor table initId = some Builtin.«BaseException.__init__»
  sp : splitId initId = some (B, "__init__")
  kd : builtinKind initId = some .slot
  rw_ : Manifest.signature? initId = some ⟨.positional, "*", B, .self, [⟨"args", .varPos, false⟩]⟩
  ns : (B != "*") = true
/-- the __new__ by which a class with these bases is made -/
structure NewF (newId : String) (bm : List Value) : Prop where
  ex : ∃ B0 i0 bm0, ExcBaseFacts B0 newId i0 bm0 ∧ bm.contains (.type B0) = true
  na : bm.contains (.type "AttributeError") = false
  nn : bm.contains (.type "NameError") = false
theorem IniF.of {B n i : String} {bm : List Value} (F : ExcBaseFacts B n i bm) : IniF B i := ⟨F.init.plain, F.initEntry, F.initSplit, F.initKind, F.initRow, F.noStar⟩
theorem NewF.of {B n i : String} {bm : List Value} (F : ExcBaseFacts B n i bm) : NewF n bm := ⟨⟨B, i, bm, F, F.hasB⟩, F.noAttr, F.noName⟩
section
variable {md : Model} {ar : Around} {ek : Value → Shared → Prop} {hq0 : Heap} {gs : Array GenState} {dr : Drawn} {tk : Nat} {os : OsState}
variable {nm qn : Str} {cl nsp : Addr} {bs tl : List Value} {hd : Bool} {sn : List Str} {sub : List Value} {ab : Bool} {col : Option Bool} {dd : Option Addr} {k0 k1 k2 k3 k5 : Option Value} {B0 nw ini : String} {bm0 : List Value}
theorem kx_check_new (G : ExcBaseFacts B0 nw ini bm0) (hB : tl.contains (.type B0) = true) {more : List Value} {Q : Unit → Shared → Prop}
    (at_ : hq0.get? cl = some (excClassObj nm qn cl nsp bs tl hd sn sub ab col dd k0 k1 k2 k3 k5 nw)) (fin : Q () ⟨hq0, gs, dr, tk, os⟩) : wpAny md ar (checkBuiltinCall nw ⟨.ref cl :: more, []⟩) Q ek ⟨hq0, gs, dr, tk, os⟩ := by
  have inB : (Value.ref cl :: tl).contains (.type B0) = true := by rw [List.contains_cons, hB, Bool.or_true]
  have star := G.noStar
  simp only [checkBuiltinCall, G.newKind, G.newSplit, G.newRow]
  repeat (first | refine wpAny_loadPart_at at_ ?_ | (refine wpAny_isSubtype_exc at_ ?_; rw [inB]) | refine wpAny_staticBase_exc at_ ?_ | refine wpAny_madeBy_exc at_ ?_ | simp only [bne_self_eq_false, Bool.false_eq_true, if_false] | wp_step)
  exact fin
theorem kx_check_init {B ini : String} (G : IniF B ini) (hB : tl.contains (.type B) = true) {x : Addr} {ox : Obj} {more : List Value} {Q : Unit → Shared → Prop}
    (at_ : hq0.get? cl = some (excClassObj nm qn cl nsp bs tl hd sn sub ab col dd k0 k1 k2 k3 k5 nw)) (ax : hq0.get? x = some ox) (cx : ox.cls = .ref cl) (fin : Q () ⟨hq0, gs, dr, tk, os⟩) :
    wpAny md ar (checkBuiltinCall ini ⟨.ref x :: more, []⟩) Q ek ⟨hq0, gs, dr, tk, os⟩ := by
  have inB : (Value.ref cl :: tl).contains (.type B) = true := by rw [List.contains_cons, hB, Bool.or_true]
  have star := G.ns
  simp only [checkBuiltinCall, G.kd, G.sp, G.rw_]
  repeat (first | (with_reducible refine wpAny_loadPart_at ax ?_; rw [cx]) | with_reducible refine wpAny_loadPart_at at_ ?_ | (with_reducible refine wpAny_isSubtype_exc at_ ?_; rw [inB]) | wp_step)
  refine wpAny_onRaise ?_
  have z : ∀ (a b : String) (n : Nat), Bind.check ⟨.positional, "*", B, .self, [⟨"args", .varPos, false⟩]⟩ a b n (List.map (fun y => y.fst) ({ pos := Value.ref x :: more } : Args).kw) = pure () := fun a b n => check_star_args _ _ _ _ _ _
  rw [z]
  exact wpAny_pure fin
end
section
variable {prog : Program} {w : World} {ar : Around} {ek : Value → Shared → Prop} {R : Result → Shared → Prop} {hq0 : Heap} {gs : Array GenState} {dr : Drawn} {tk : Nat} {os : OsState}
variable {nm qn : Str} {cl nsp : Addr} {bs tl : List Value} {hd : Bool} {sn : List Str} {sub : List Value} {ab : Bool} {col : Option Bool} {dd : Option Addr} {k0 k1 k2 k3 k5 : Option Value} {B0 nw i0 : String} {bm0 : List Value}
theorem kx_new (G : ExcBaseFacts B0 nw i0 bm0) (hB : tl.contains (.type B0) = true) (hA : tl.contains (.type "AttributeError") = false) (hN : tl.contains (.type "NameError") = false) {more : List Value}
    (at_ : hq0.get? cl = some (excClassObj nm qn cl nsp bs tl hd sn sub ab col dd k0 k1 k2 k3 k5 nw))
    (fin : R (.ok (.ret (.ref (hq0.objs.size + 1)))) ⟨(hq0.push { cls := .type "tuple", data := .seq more.toArray }).push { cls := .ref cl, data := .fields #[.ref hq0.objs.size, .none, .none, .none, .bool false, .none] }, gs, dr, tk, os⟩) (few : more.length ≤ sizeLine) :
    codeAny (model prog w) ar (.builtin nw ⟨.ref cl :: more, []⟩) R ⟨hq0, gs, dr, tk, os⟩ := by
  have ends := G.ends
  have cB : (Value.ref cl :: tl).contains (.type B0) = true := by rw [List.contains_cons, hB, Bool.or_true]
  have cA : (Value.ref cl :: tl).contains (.type "AttributeError") = false := by rw [List.contains_cons, hA]; rfl
  have cN : (Value.ref cl :: tl).contains (.type "NameError") = false := by rw [List.contains_cons, hN]; rfl
  refine PySem.codeAny_builtinAt G.entry ?_
  unfold Builtin.«BaseException.__new__»
  refine PySem.wpAt_bind ?_
  show PySem.wpAt _ _ _ (stack >>= _) _ _ _
  refine PySem.wpAt_bind (PySem.wpAt_stack fun p below => PySem.wpAt_of_wpAny ?_)
  wp_walk
  refine PySem.wpAt_of_wpAny ?_
  rw [G.owner]
  repeat (first | with_reducible refine wpAny_madeHere_exc G.canon at_ ?_ | with_reducible refine wpAny_loadPart_at at_ ?_ | (with_reducible refine wpAny_isSubtype_exc at_ ?_; first | rw [cB] | rw [cA] | rw [cN]) | wp_step)
  show R _ _
  rw [Heap.size_push]
  exact fin
theorem kx_type_call (G : ExcBaseFacts B0 nw i0 bm0) (hB : tl.contains (.type B0) = true) (hA : tl.contains (.type "AttributeError") = false) (hN : tl.contains (.type "NameError") = false) {more : List Value} {fI : Addr} {Q : Fin → Shared → Prop}
    (at_ : hq0.get? cl = some (excClassObj nm qn cl nsp bs tl hd sn sub ab col dd k0 k1 k2 k3 k5 nw))
    (lk : W.Looks (model prog w) hq0 (typeLookup (.ref cl) "__init__") (some (.ref fI))) (bd : ∀ self, W.Looks (model prog w) hq0 (bindSpecial (.ref fI) self) (.ref fI, [self])) (few : more.length ≤ sizeLine)
    (fin : codeAny (model prog w) ar (.call (.ref fI) ⟨.ref (hq0.objs.size + 1) :: more, []⟩)
      (fun r s' => match r with | .ok (.ret v) => v = .none ∧ Q (.done (.ret (.ref (hq0.objs.size + 1)))) s' | .ok _ => False | .error e => ek e s') ⟨(hq0.push (W.kdv_tup more)).push (excO cl hq0.objs.size), gs, dr, tk, os⟩) :
    wpAny (model prog w) ar (Builtin.«type.__call__» ⟨.ref cl :: more, []⟩) Q ek ⟨hq0, gs, dr, tk, os⟩ := by
  repeat (first | with_reducible refine wpAny_loadPart_at at_ ?_ | with_reducible refine wpAny_madeBy_exc at_ ?_ | wp_step)
  refine codeAny_call_builtin_code (Code.quiet_builtin _ G.quiet) (kx_check_new G hB at_ ?_)
  refine kx_new G hB hA hN at_ ?_ few
  show wpAny _ _ _ _ _ _
  have kp : ∀ b o, hq0.get? b = some o → ((hq0.push (W.kdv_tup more)).push (excO cl hq0.objs.size)).get? b = some o := fun b o e => Heap.get?_push_of_some _ (Heap.get?_push_of_some _ e)
  have at1 := kp _ _ at_
  have got : ((hq0.push (W.kdv_tup more)).push (excO cl hq0.objs.size)).get? (hq0.objs.size + 1) = some (excO cl hq0.objs.size) := by heap_get
  have own : (Value.ref cl :: tl).contains (.ref cl) = true := by simp
  have lk1 := lk.keeps kp
  have bd1 := (bd (.ref (hq0.objs.size + 1))).keeps kp
  unfold isInstance
  repeat (first | with_reducible refine wpAny_loadPart_at got ?_ | (with_reducible refine wpAny_isSubtype_exc at1 ?_; rw [own]) | wp_step)
  show wpAny _ _ (typeLookup (.ref cl) _) _ _ _
  refine lk1.at ?_
  refine wpAny_holding (wpAny_bind (bd1.at ?_))
  refine wpAny_bind (wpAny_call (codeAny_mono fin fun r s' z => ?_))
  rcases r with e | (v | _ | _ | _) <;> first | exact z | exact z.elim | skip
  obtain ⟨rfl, z⟩ := z
  first
    | exact wpAny_pure (wpAny_pure z)
    | (wp_walk; exact z)
theorem kx_call (Z : NewF nw tl) {more : List Value} {fI : Addr} (at_ : hq0.get? cl = some (excClassObj nm qn cl nsp bs tl hd sn sub ab col dd k0 k1 k2 k3 k5 nw))
    (lk : W.Looks (model prog w) hq0 (typeLookup (.ref cl) "__init__") (some (.ref fI))) (bd : ∀ self, W.Looks (model prog w) hq0 (bindSpecial (.ref fI) self) (.ref fI, [self])) (few : more.length ≤ sizeLine)
    (fin : codeAny (model prog w) (ar.under (.builtin "type.__call__" ⟨.ref cl :: more, []⟩)) (.call (.ref fI) ⟨.ref (hq0.objs.size + 1) :: more, []⟩) (W.InitBack (hq0.objs.size + 1) R) ⟨(hq0.push (W.kdv_tup more)).push (excO cl hq0.objs.size), gs, dr, tk, os⟩) :
    codeAny (model prog w) ar (.call (.ref cl) ⟨more, []⟩) R ⟨hq0, gs, dr, tk, os⟩ := by
  obtain ⟨⟨B0, i0, bm0, G, hB⟩, hA, hN⟩ := Z
  have l1 := tc_lookup
  have l2 := tc_bind (.ref cl)
  have ty : (⟨hq0, gs, dr, tk, os⟩ : Shared).TypeIs (.ref cl) "type" := ⟨_, at_, rfl⟩
  refine codeAny_of_tree ?_
  show wpAny _ _ (callAny (.ref cl) _) _ _ _
  repeat (any_goals (first | assumption | with_reducible refine wpAny_loadPart_at at_ ?_ | wp_step))
  refine ⟨rfl, ?_⟩
  refine codeAny_call_builtin_at (Code.quiet_builtin _ (by decide +kernel)) entry_typeCall (wpAny_check_type_call_sub at_ (kx_type_call G hB hA hN at_ lk bd few ?_))
  refine codeAny_mono fin fun r s' z => ?_
  rcases r with e | (v | _ | _ | _) <;> exact z
theorem kx_init {B ini : String} (G : IniF B ini) (hB : tl.contains (.type B) = true) {x t0 : Addr} {more : List Value}
    (at_ : hq0.get? cl = some (excClassObj nm qn cl nsp bs tl hd sn sub ab col dd k0 k1 k2 k3 k5 nw)) (ax : hq0.get? x = some (excO cl t0)) (few : more.length ≤ sizeLine)
    (fin : ∀ h' t1, (∀ b o, b ≠ x → hq0.get? b = some o → h'.get? b = some o) → h'.get? x = some (excO cl t1) → R (.ok (.ret .none)) ⟨h', gs, dr, tk, os⟩) :
    codeAny (model prog w) ar (.call (.builtin ini) ⟨.ref x :: more, []⟩) R ⟨hq0, gs, dr, tk, os⟩ := by
  refine codeAny_call_builtin G.pl G.en (kx_check_init G hB at_ ax rfl ?_)
  wp_walk
  refine fin _ hq0.objs.size (fun b o hb ho => ?_) ?_
  · rw [Heap.get?_update_other _ _ (Ne.symm hb)]
    exact Heap.get?_push_of_some _ ho
  · rw [Heap.get?_update_self _ (Heap.get?_push_of_some _ ax) rfl]
    rfl
end
end Np
set_option Elab.async false
set_option linter.all false
set_option maxRecDepth 100000
set_option maxHeartbeats 4000000
namespace Np
open PySem PySem.Spec PyProof.Rows L2
section
open PySem.W Builtin Builtin.ObjectAttr
variable {prog : Program} {w : World} {A : Around} {E : Value → Shared → Prop} {hp : Heap} {g : Array GenState} {d : Drawn} {t : Nat} {os : OsState}
/-- a first field: the dict comes to be -/
theorem own_first {name : Str} {tk : Tok} {v : Value} {x C : Addr} {fv : Array Value} {cd : ClassData} {b : Bool} {Q : Fin → Shared → Prop} (hx : hp.get? x = some { cls := .ref C, data := .fields fv })
    (hcls : PySem.W.Looks (model prog w) hp (classData C) cd) (hh : cd.hasDict = true)
    (hq : ∀ h' tk' dx, (∀ b o, b ≠ x → hp.get? b = some o → h'.get? b = some o) → hp.objs.size ≤ dx → dx ≠ x → h'.get? x = some { cls := .ref C, dict := some dx, data := .fields fv } →
      h'.Ns1 dx (fun y => if y = name then some v else none) → Q (.done (.ret .none)) ⟨h', g, d, tk', os⟩) :
    wpAny (model prog w) A (storeInOwnDict (.ref x) (.ref C) (.str name tk) name v b) Q E ⟨hp, g, d, t, os⟩ := by
  have hxs : x ≠ hp.objs.size := Nat.ne_of_lt (Heap.lt_size hx)
  obtain ⟨nm, bs, mro, ns, qn, hd, sn, sb, ab, col, del⟩ := cd
  dsimp only at hh
  subst hh
  unfold storeInOwnDict ownDictForStores
  repeat (first | with_reducible refine PySem.HandSPX.store_in_new ?_ ?_ | with_reducible refine wpAny_loadPart_at hx ?_ | with_reducible refine hcls.at ?_ | wp_step)
  · exact ⟨_, #[], _, (Heap.get?_update_ne _ _ _ _ hxs.symm).trans (Heap.get?_push_at rfl rfl), rfl, fun e he => absurd he (by simp), fun _ => rfl⟩
  · intro h' tk' hn' hs
    have hx₁ : (hp.push { cls := .type "dict", data := .dict #[] }).get? x = some { cls := .ref C, data := .fields fv } := Heap.get?_push_of_some _ hx
    refine hq h' tk' hp.objs.size (fun b o hb ho => ?_) (Nat.le_refl _) hxs.symm ?_ hn'
    · exact (hs.2 b (Nat.ne_of_lt (Heap.lt_size ho))).trans ((Heap.get?_update_ne _ _ _ _ hb).trans (Heap.get?_push_of_some _ ho))
    · exact (hs.2 x hxs).trans (Heap.get?_update_self _ hx₁ rfl)
/-- a further field -/
theorem own_more {name : Str} {tk : Tok} {v : Value} {x C dx : Addr} {fv : Array Value} {cd : ClassData} {b : Bool} {m0 : Str → Option Value} {nl : List Str} {Q : Fin → Shared → Prop} (hx : hp.get? x = some { cls := .ref C, dict := some dx, data := .fields fv })
    (hns : hp.Ns1 dx m0) (hw : Within m0 nl) (hz : nl.length ≤ 1000) (hcls : PySem.W.Looks (model prog w) hp (classData C) cd) (hh : cd.hasDict = true)
    (hq : ∀ h' tk', (∀ b o, b ≠ dx → hp.get? b = some o → h'.get? b = some o) → h'.Ns1 dx (fun y => if y = name then some v else m0 y) → Q (.done (.ret .none)) ⟨h', g, d, tk', os⟩) :
    wpAny (model prog w) A (storeInOwnDict (.ref x) (.ref C) (.str name tk) name v b) Q E ⟨hp, g, d, t, os⟩ := by
  obtain ⟨nm, bs, mro, ns, qn, hd, sn, sb, ab, col, del⟩ := cd
  dsimp only at hh
  subst hh
  unfold storeInOwnDict ownDictForStores
  repeat (first | with_reducible refine PySem.OEX.store_in_old hns hw hz ?_ | with_reducible refine wpAny_loadPart_at hx ?_ | with_reducible refine hcls.at ?_ | wp_step)
  intro h' tk' hn' hs
  exact hq h' tk' (fun b o hb ho => (hs.2 b hb).trans ho) hn'
end
/-- what the written part says of a class over the base B -/
structure OexB (B newId initId : String) (bmB : List Value) (K : PySem.W.Frag) (C : Addr) : Prop where
  fb : NewF newId bmB ∧ IniF B initId ∧ bmB.contains (.type B) = true
  sf : StoreFacts B bmB "object.__setattr__" "object"
  cls : ∃ nm q N bs bm sn sub ab col dd k0 k1 k2 k3 k5, K.lookup C = some (excClassObj nm q C N bs bm true sn sub ab col dd k0 k1 k2 k3 k5 newId) ∧ PySem.W.excTail bmB bm = true
  sa : PySem.W.findIn K (.ref C) "__setattr__" = some (some (.builtin "object.__setattr__"))
  exC : PySem.W.subIn K (.ref C) (.type "BaseException") = some true
  tyC : PySem.W.typeIn K (.ref C) = some (.type "type")
  kC : PySem.W.keepIn K (.ref C) = true
theorem NewF.up {n : String} {bmB bm : List Value} (Z : NewF n bmB) (h : PySem.W.excTail bmB bm = true) : NewF n bm := by
  obtain ⟨⟨B0, i0, bm0, G, hB⟩, hA, hN⟩ := Z
  exact ⟨⟨B0, i0, bm0, G, by rw [PySem.W.excTail_contains _ bm h]; exact hB⟩, by rw [PySem.W.excTail_contains _ bm h]; exact hA, by rw [PySem.W.excTail_contains _ bm h]; exact hN⟩
section
variable {B newId initId : String} {bmB : List Value} {K : PySem.W.Frag} {C : Addr}
theorem OexB.has (T : OexB B newId initId bmB K C) : ∃ cd, PySem.W.clsIn K C = some cd ∧ cd.hasDict = true ∧ PySem.W.excOver K C bmB = true := by
  obtain ⟨nm, q, N, bs, bm, sn, sub, ab, col, dd, k0, k1, k2, k3, k5, hC, hb⟩ := T.cls
  have e : PySem.W.clsIn K C = some { name := nm, bases := bs, mro := .ref C :: bm, ns := N, qualname := q, hasDict := true, slotNames := sn, subclasses := sub, abstract := ab, collection := col, hasDel := false } := by unfold PySem.W.clsIn; rw [hC] <;> rfl
  refine ⟨_, e, rfl, ?_⟩
  unfold PySem.W.excOver
  rw [e]
  show (C == C && PySem.W.excTail bmB bm) = true
  rw [hb, Bool.and_true]
  exact beq_self_eq_true C
end
section
variable {X : Cx} {pins : List (Addr × Obj)} {σ : L2.St} {H : Hp} {s : Shared} {a C dx : Addr} {f : Str} {y : V} {u : Value} {fs : List (Str × V)} {E : Value → Shared → Prop} {A : Around} {B newId initId : String} {bmB : List Value}
/-- self.f = y, the first one: all else stays as it is -/
theorem obst_first {Q : Unit → Shared → Prop} (T : OexB B newId initId bmB X.K C) (I : L2.Inv X pins σ H s) (e : H a = some (exo a C none)) (hno : PySem.W.findIn X.K (.ref C) f = some none) (ry : RelV y u)
    (h : ∀ dx s', H dx = none → dx ≠ a → L2.Inv X pins σ (upd (upd H dx (exd dx [(f, y)])) a (exo a C (some dx))) s' → Q () s') : wpAny (model X.prog X.w) A (setAttr (.ref a) f u) Q E s := by
  obtain ⟨cd, hcl, hhd, hov⟩ := T.has
  obtain ⟨t1, ho⟩ := exo_at I.hok e
  obtain ⟨hp, g, d, t, os⟩ := s
  have J : PySem.W.InstAt hp a { cls := .ref C, dict := none, data := .fields #[.ref t1, .none, .none, .none, .bool false, .none] } C none := ⟨ho, rfl, rfl, trivial⟩
  refine PySem.W.set_plain I.kIn J T.sa (PySem.W.osa_openX (s := ⟨hp, g, d, t + 1, os⟩) T.sf I.kIn J hov (NoAttr.taker hno) fun b => ?_)
  refine own_first (cd := cd) ho (PySem.W.looks_clsIn I.kIn hcl) hhd fun h' tk' dx k dn dne hx hn => ?_
  have hnd : H dx = none := I.hok.fresh dn
  have nd : ∀ {b : Addr} {o : Obj}, hp.get? b = some o → b ≠ dx := fun {b o} q => Nat.ne_of_lt (Nat.lt_of_lt_of_le (Heap.lt_size q) dn)
  have na : ∀ {b : Addr}, H b = none → b ≠ a := fun {b} n z => by
    rw [z, e] at n
    cases n
  have two : ∀ {b : Addr}, b ≠ a → b ≠ dx → upd (upd H dx (exd dx [(f, y)])) a (exo a C (some dx)) b = H b := fun {b} h1 h2 => by rw [upd_ne h1, upd_ne h2]
  have Un1 : Un X.fs [] H (upd (upd H dx (exd dx [(f, y)])) a (exo a C (some dx))) hp h' := {
    keep := fun b o q n _ _ => k b o (na n) q
    slot := fun b o q n _ _ => ⟨o.slots, k b o (na n) q⟩
    free := fun b o q n _ => by rw [two (na n) (nd q)]; exact n
    there := fun b o q _ => by
      by_cases hb : b = a
      · exact ⟨_, by rw [hb]; exact hx⟩
      · exact ⟨o, k b o hb q⟩
    tups := fun b xs q => by rw [two (at_ne e q exo_tup) (ne_of_none q hnd)]; exact q
    frzs := fun b o v q => by rw [two (at_ne e q exo_frz) (ne_of_none q hnd)]; exact q
    tbls := fun b ps q => ⟨#[], by rw [two (at_ne e q exo_tbl) (ne_of_none q hnd), q]; simp⟩ }
  refine h dx _ hnd dne (I.un (t' := tk') Un1 fun b o q => ?_)
  by_cases hb : b = a
  · subst hb
    rw [upd_same] at q
    cases q
    exact exo_ok hx
  · rw [upd_ne hb] at q
    by_cases hd : b = dx
    · subst hd
      rw [upd_same] at q
      cases q
      exact exd_ok hn (relO_put (fs := []) ry fun g => True.intro)
    · rw [upd_ne hd] at q
      refine (I.hok b o q).stay (fun c v hc z => k c v ?_ z) (fun c hc => by rw [two (at_ne e hc exo_own) (ne_of_none hc hnd)]; exact hc) (fun c xs hc => by rw [two (at_ne e hc exo_tup) (ne_of_none hc hnd)]; exact hc)
      rcases hc with hc | hc
      · rw [hc]; exact hb
      · exact at_ne e hc exo_own
theorem obst_more {Q : Unit → Shared → Prop} (T : OexB B newId initId bmB X.K C) (I : L2.Inv X pins σ H s) (e : H a = some (exo a C (some dx))) (ed : H dx = some (exd dx fs)) (hl : fs.length ≤ 900) (hno : PySem.W.findIn X.K (.ref C) f = some none) (ry : RelV y u)
    (h : ∀ s', L2.Inv X pins σ (upd H dx (exd dx ((f, y) :: fs))) s' → Q () s') : wpAny (model X.prog X.w) A (setAttr (.ref a) f u) Q E s := by
  obtain ⟨cd, hcl, hhd, hov⟩ := T.has
  obtain ⟨t1, ho⟩ := exo_at I.hok e
  obtain ⟨mA, hns, rel⟩ := exd_at I.hok ed
  have hw := within_of rel
  obtain ⟨hp, g, d, t, os⟩ := s
  obtain ⟨oD, _, _, hoD, _, _⟩ := hns.count hw
  have J : PySem.W.InstAt hp a { cls := .ref C, dict := some dx, data := .fields #[.ref t1, .none, .none, .none, .bool false, .none] } C (some oD) := ⟨ho, rfl, rfl, hoD⟩
  refine PySem.W.set_plain I.kIn J T.sa (PySem.W.osa_openX (s := ⟨hp, g, d, t + 1, os⟩) T.sf I.kIn J hov (NoAttr.taker hno) fun b => ?_)
  refine own_more (cd := cd) ho hns hw (by rw [List.length_map]; omega) (PySem.W.looks_clsIn I.kIn hcl) hhd fun h' tk' k hn => ?_
  have hd : ∃ o, h'.get? dx = some o := by
    obtain ⟨o, _, _, e', _⟩ := hn
    exact ⟨o, e'⟩
  exact h _ (I.write (t' := tk') (x := dx) (e := dx) (o := exd dx ((f, y) :: fs)) (by rw [ed]; exact True.intro) (.inl rfl) k hd (exd_ok hn (relO_put ry rel)))
/-- the base's __init__ -/
theorem obinit {us : List Value} {Q : Value → Shared → Prop} (T : OexB B newId initId bmB X.K C) (I : L2.Inv X pins σ H s) (e : H a = some (exo a C none)) (hl : us.length ≤ sizeLine) (h : ∀ s', L2.Inv X pins σ H s' → Q .none s') :
    wpAny (model X.prog X.w) A (call (.builtin initId) (.ref a :: us)) Q E s := by
  obtain ⟨nm, q, N, bs, bm, sn, sub, ab, col, dd, k0, k1, k2, k3, k5, hC, hbm⟩ := T.cls
  obtain ⟨t1, ho⟩ := exo_at I.hok e
  obtain ⟨hp, g, d, t, os⟩ := s
  refine wpAny_call (kx_init T.fb.2.1 (by rw [PySem.W.excTail_contains _ bm hbm]; exact T.fb.2.2) (I.kIn _ _ hC) ho hl fun h' t2 k hx => ?_)
  have J := I.write (t' := t) (x := a) (e := a) (o := exo a C none) (by rw [e]; exact True.intro) (.inl rfl) k ⟨_, hx⟩ (exo_ok hx)
  have eu : upd H a (exo a C none) = H := by
    funext b
    by_cases hb : b = a
    · rw [hb, upd_same, e]
    · rw [upd_ne hb]
  rw [eu] at J
  exact h _ J
end
structure Bas where
  B : String
  newId : String
  initId : String
  bm : List Value
abbrev OexO (b : Bas) (K : PySem.W.Frag) (C : Addr) : Prop := OexB b.B b.newId b.initId b.bm K C
structure BasOk (b : Bas) : Prop where
  typ : typeOf (.type b.B) = pure (.type "type")
  stub : Manifest.isStub b.B = false
  hand : PySem.W.handedIn (.builtin b.initId) = true
  boot : bootBuiltins (Str.ofString b.B) = some (.type b.B)
/-- B.__init__(self, ..) -/
def tBI (b : Bas) (K : PySem.W.Frag) (ta : TA) : TE := fun σ H Q => ta σ H fun vs H1 => ∃ (a C : Addr) (ws : List V), vs = .ref a :: ws ∧ ws.length ≤ 1000 ∧ OexO b K C ∧ H1 a = some (exo a C none) ∧ Q .non H1
/-- self.f = e -/
def tOstB (b : Bas) (K : PySem.W.Frag) (f : Str) (to te : TE) : TS := fun D σ H => te σ H fun y H1 => to σ H1 fun x H2 => ∃ a C : Addr, x = .ref a ∧ OexO b K C ∧ PySem.W.findIn K (.ref C) f = some none ∧
  ((H2 a = some (exo a C none) ∧ ∀ dx, H2 dx = none → dx ≠ a → D.nx σ (upd (upd H2 dx (exd dx [(f, y)])) a (exo a C (some dx)))) ∨
    ∃ (dx : Addr) (fs : List (Str × V)), H2 a = some (exo a C (some dx)) ∧ H2 dx = some (exd dx fs) ∧ fs.length ≤ 900 ∧ D.nx σ (upd H2 dx (exd dx ((f, y) :: fs))))
section
variable {X : Cx} {o e : Expr} {es : List Expr} {to te : TE} {ta : TA} {f : Str} {p p' p1 p2 pos : Pos} {b : Bas}
theorem pe_binitB (K : PySem.W.Frag) {x : Str} {pl : Sem Bool} (hb : BasOk b) (hx : x = Str.ofString b.B) (hm : X.mg x = none) (vV : PySem.W.findCls X.K (.type b.B) (.type "type") "__init__" = some (.val (.builtin b.initId))) (ha : PA X (e :: es) ta) (hg : Gl X x := by rfl)
    (hn : x ≠ "__name__" := by decide +kernel) (hdb : (x == ("__debug__" : Str)) = false := by decide +kernel)
    (hc : eval (.Call (.Attribute (.Name x p1) "__init__" p2) (e :: es) [] pos) X.env = (do
      let who ← eval (.Name x p1) X.env
      standAt p2.atName
      let (g, ahead) ← holding [who] (getMethod who "__init__" pl)
      callWith pos g ahead (backTo pos (starEach (e :: es) X.env)) (backToKw pos (keywordEach [] X.env))) := by rfl)
    (hs : starEach (e :: es) X.env = (false, eval e X.env) :: starEach es X.env := by rfl) (hp : (backTo pos (starEach es X.env)).any (·.1) = false := by rfl) (hK : X.K = K := by rfl) :
    PE X (.Call (.Attribute (.Name x p1) "__init__" p2) (e :: es) [] pos) (tBI b K ta) := by
  subst hK
  refine ⟨fun pins s σ H Q I h => ?_⟩
  refine PySem.W.methodCall_KW (ld_blt I hg hm (by rw [hx]; exact hb.boot) ?_ hn hdb) hc
  obtain ⟨m, fr⟩ := I.fr
  refine PySem.W.method_type fr I.ok.mod.kin hb.typ hb.stub vV hb.hand ?_
  show wpAny _ _ (callWith pos (Value.builtin b.initId) [] (backTo pos (starEach (e :: es) X.env)) []) _ _ _
  refine PyProof.Rows.callWith_method1 (L2.thn (ha.run pos pins _ σ H _ (I.tok _) h) fun us s1 hh => ?_) hs hp
  obtain ⟨vs, H1, I1, r1, a, C, ws, ev, hl, T', ea, q⟩ := hh
  subst ev
  cases r1 with
  | @cons _ u0 _ ur ra rw' =>
    obtain rfl : u0 = Value.ref a := ra
    exact obinit T' I1 ea (by rw [← Paired.length rw', sizeLine_eq]; omega) fun s' J => ⟨.non, H1, J, rfl, q⟩
theorem ps_ostB (K : PySem.W.Frag) (ho : PE X o to) (he : PE X e te) (hs : swapsWith e (some (.Attribute o f p')) pos.line X.env = pure false := by rfl) (hK : X.K = K := by rfl) : PS X (.Assign [.Attribute o f p'] e pos) (tOstB b K f to te) := by
  subst hK
  refine ⟨fun pins s σ H D I h => ?_⟩
  refine plainObj_wpAny_Assign_Attribute (L2.thn (he.run pins s σ H _ I h) fun v s1 hh => ?_) hs
  obtain ⟨y, H1, I1, r1, q1⟩ := hh
  refine L2.thn (ho.run pins s1 σ H1 _ I1 q1) fun u s2 hh => ?_
  obtain ⟨x, H2, I2, r2, a, C, ex, T, hno, q⟩ := hh
  subst ex
  obtain rfl : u = Value.ref a := r2
  rcases q with ⟨ea, q⟩ | ⟨dx, fs, ea, ed, hl, q⟩
  · exact obst_first T I2 ea hno r1 fun dx s' n ne J => ⟨σ, _, J, q dx n ne⟩
  · exact obst_more T I2 ea ed hl hno r1 fun s' J => ⟨σ, _, J, q⟩
theorem pmk_oexB {CX : CXT} {x : Str} {C fI : Addr} {k : Nat} {fd : FuncData} {ps : List Str} {sp : Sp} {ds : List Value} {dvs : List V} (T : OexO b X.K C) (iC : PySem.W.findIn X.K (.ref C) "__init__" = some (some (.ref fI))) (tI : PySem.W.typeIn X.K (.ref fI) = some (.type "function"))
    (F1 : FnOk X.prog X.w X.K X.mg X.base CX k fI fd ps sp) (hr : Room (k + 1) X.A) (hb : Binds X.K fd ps ds) (hd : Vals dvs ds) (hx : Passes CX X (fun _ _ _ => False)) (hg : Gl X x) (hm : X.mg x = some (.ref C)) (ha : PA X (e :: es) ta)
    (hdb : (x == ("__debug__" : Str)) = false := by decide) (he : starEach (e :: es) X.env = (false, eval e X.env) :: starEach es X.env := by rfl) (hpl : (backTo pos (starEach es X.env)).any (·.1) = false := by rfl) :
    PMk X (.Call (.Name x p) (e :: es) [] pos) (tMkO C sp dvs ta) := by
  intro pins s σ H Q I h
  obtain ⟨nm, q, N, bs, bm, sn, sub, ab, col, dd, k0, k1, k2, k3, k5, hC, hbm⟩ := T.cls
  refine wpAny_Call_Name_kw (ld_glob I hg hm ?_ hdb)
  refine PySem.W.callWith_K (h₀ := X.base) I.ok.mod.kin T.kC (L2.thn (ha.run pos pins s σ H _ I h) fun us s1 hh => ?_) he hpl
  obtain ⟨vs, H1, I1, r1, hz, q1⟩ := hh
  refine ⟨I1.kIn, ?_⟩
  show wpAny _ _ (call (.ref C) us) _ _ _
  obtain ⟨hp, g, dr, tk, os⟩ := s1
  obtain ⟨n0, hn0⟩ : ∃ n0, n0 = hp.objs.size := ⟨_, rfl⟩
  have hsz : hp.objs.size ≤ n0 + 1 := by omega
  have hq := q1 (n0 + 1) (I1.hok.fresh hsz)
  subst hn0
  have kk : ∀ b o, hp.get? b = some o → ((hp.push (PySem.W.kdv_tup us)).push (PySem.HandSPX.excO C hp.objs.size)).get? b = some o := fun b o e => Heap.get?_push_of_some _ (Heap.get?_push_of_some _ e)
  have hget : ((hp.push (PySem.W.kdv_tup us)).push (PySem.HandSPX.excO C hp.objs.size)).get? (hp.objs.size + 1) = some (PySem.HandSPX.excO C hp.objs.size) := by heap_get
  have I2 := I1.laid (t' := tk) (a := hp.objs.size + 1) (o := exo (hp.objs.size + 1) C none) (h' := (hp.push (PySem.W.kdv_tup us)).push (PySem.HandSPX.excO C hp.objs.size)) kk hsz (exo_ok hget)
  have r2 : Vals (V.ref (hp.objs.size + 1) :: (vs ++ dvs)) (Value.ref (hp.objs.size + 1) :: (us ++ ds)) := .cons rfl (r1.append hd)
  have hl : (Value.ref (hp.objs.size + 1) :: us ++ ds).length = ps.length := (r2.length.symm.trans (F1.len _ _ _ _ hq))
  have hus : us.length ≤ sizeLine := by rw [← Paired.length r1, sizeLine_eq]; omega
  refine wpAny_call (kx_call (T.fb.1.up hbm) (I1.kIn _ _ hC) (PySem.W.looks_findIn I1.kIn iC) (fun self => PySem.W.bind_fn I1.kIn self tI) hus
    (codeAny_mono (F1.run _ X.stack _ _ ⟨Value.ref (hp.objs.size + 1) :: us, []⟩ (Value.ref (hp.objs.size + 1) :: (us ++ ds)) _ _ (fun _ _ _ => False) (hr.make C us []) (I2.env0.make C us []) (hb _ (Value.ref (hp.objs.size + 1) :: us) I2.kIn hl) r2 hq) fun r s' hq' => ?_))
  cases r with
  | error er => exact hx pins σ _ _ er s' I2 hq'
  | ok fl =>
    cases fl with
    | ret u =>
      obtain ⟨v, H2, os2, bare2, un2, hok2, rv, ev, d, fs, ea, ed, hd1, q2⟩ := hq'
      subst ev
      obtain ⟨h2, g2, d2, t2, os'⟩ := s'
      exact ⟨rv, mk_end (raises_own T.exC T.tyC) I1 hsz kk un2 hok2 os2 bare2 ea ed hd1 q2⟩
    | next => exact False.elim hq'
    | brk => exact False.elim hq'
    | cont => exact False.elim hq'
end
abbrev FbOk (b : Bas) : Prop := NewF b.newId b.bm ∧ IniF b.B b.initId ∧ b.bm.contains (.type b.B) = true
abbrev SfOk (b : Bas) : Prop := StoreFacts b.B b.bm "object.__setattr__" "object"
def bKey : Bas := ⟨"KeyError", "LookupError.__new__", "KeyError.__init__", [.type "KeyError", .type "LookupError", .type "Exception", .type "BaseException", .type "object"]⟩
theorem bKey_ok : BasOk bKey := ⟨by kernel_rfl, by decide +kernel, by decide +kernel, by decide +kernel⟩
theorem bKey_ini : IniF "KeyError" "KeyError.__init__" :=
  ⟨by decide +kernel, PySem.entryFor_alias (id' := "BaseException.__init__") (by rw [fastTable_eq_tree]; kernel_rfl) (by first | rfl | decide +kernel) (by decide +kernel) (by rw [fastTable_eq_tree]; kernel_rfl), by kernel_rfl, by kernel_rfl, by kernel_rfl, by decide +kernel⟩
theorem bKey_fb : FbOk bKey := ⟨⟨⟨"LookupError", _, _, PySem.F.excBase_LookupError, by decide +kernel⟩, by decide +kernel, by decide +kernel⟩, bKey_ini, by decide +kernel⟩
theorem bKey_sf : SfOk bKey :=
  ⟨by kernel_rfl, .of (owner := "object") (n := "__setattr__") (by rw [typeLookup_type, builtinLookup_eq_fast]; kernel_rfl) (by decide +kernel) (by decide +kernel) (by decide +kernel) (by first | exact .inl (by decide +kernel) | exact .inr (by decide +kernel)) (by rw [isSubtype_type]; kernel_rfl), PySem.F.entry_object_sa, by decide +kernel, by decide +kernel, by decide +kernel, fun _ _ _ => by unfold argsOk; kernel_rfl, fun _ => by kernel_rfl⟩
end Np
set_option Elab.async false
set_option linter.all false
set_option maxRecDepth 100000
set_option maxHeartbeats 4000000
namespace Np
open PySem PySem.Spec PyProof.Rows L2
theorem flying_more {base h h' : Heap} {l : List Env} {e : Addr} {Z : Obj → Prop} (k : ∀ b o, h.get? b = some o → h'.get? b = some o) (f : PySem.HandSPX.FlyingZ base l e Z h) : PySem.HandSPX.FlyingZ base l e Z h' := by
  obtain ⟨f1, f2, f3, oe, vs, T, oT, ts, g1, g2, g3, g4, g5, g6, g7, g8, g9⟩ := f
  refine ⟨fun b o q => k _ _ (f1 b o q), f2, Heap.FunFrames.of_keeps (fun b o q _ => ⟨o, k b o q, rfl⟩) f3, oe, vs, T, oT, ts, k _ _ g1, g2, g3, g4, g5, g6, k _ _ g7, g8, g9⟩
def wKeepT (K : PySem.W.Frag) (cs : List Value) (i : Nat) (ts : Addr → Value → Option Addr → TS) (Wout : WX) (D : Ends) : WX := fun cls d σ H =>
  ∃ b, PySem.W.exmAny K cls cs = some b ∧ (b = true → ∀ a oe vs, H a = none → Zc cls d oe → oe.data = .fields vs → ts a cls d (endsK a oe i D) (σ.set i (some (.ref a))) H) ∧ (b = false → Wout cls d σ H)
section
variable {X : Cx} {body suite : List Stmt} {b₀ : Stmt} {x1 x2 x3 x4 n : Str} {i kt : Nat} {c1 c2 c3 c4 : Value} {np1 np2 np3 np4 npt pos' pos : Pos} {tb : WX → TS} {ts : Addr → Value → Option Addr → TS} {Wout : WX}
theorem ps_try_keepT (hstk : X.stack = X.env :: X.outer) (hfrm : X.env.frame = some X.env.locals) (hex : X.ex = []) (hnd : X.N.Nodup) (hix : X.N[i]? = some n) (hkind : X.env.kindOf n = some .local) (hc1 : Names X x1 c1) (hc2 : Names X x2 c2) (hc3 : Names X x3 c3) (hc4 : Names X x4 c4) (tk : Takes X Wout)
    (hbody : ∀ (W : WX) (pn : List (Addr × Obj)) (xe : Value → Shared → Prop), Takes (X.tr pn xe) W → PassesOwn (model X.prog X.w) X.A X.env xe → PSs (X.tr pn xe) body (tb W))
    (hsuite : ∀ (a : Addr) (oe : Obj) (cls : Value) (d : Option Addr) (pn : List (Addr × Obj)), Zc cls d oe → (∃ vs, oe.data = .fields vs) → PSs (X.suite a ((a, oe) :: pn)) (b₀ :: suite) (ts a cls d))
    (hst : starEach [.Name x1 np1, .Name x2 np2, .Name x3 np3, .Name x4 np4] X.env = [(false, eval (.Name x1 np1) X.env), (false, eval (.Name x2 np2) X.env), (false, eval (.Name x3 np3) X.env), (false, eval (.Name x4 np4) X.env)] := by rfl) :
    PS X (.Try body [.ExceptHandler (some (.Tuple [.Name x1 np1, .Name x2 np2, .Name x3 np3, .Name x4 np4] kt npt)) (some n) (b₀ :: suite) pos'] [] [] pos) (fun D σ H => tb (wKeepT X.K [c1, c2, c3, c4] i ts Wout D) D σ H) := by
  refine ⟨fun pins s σ H D I hread => ?_⟩
  have okX := I.ok
  have fr0 : X.A.frames = some (X.env :: X.outer) := by rw [okX.frames, hstk]
  refine wpAny_Try_except ?_
  refine wpAny_mono ((hbody (wKeepT X.K [c1, c2, c3, c4] i ts Wout D) (X.pn ++ pins) (fun er s₁ => wpAny (model X.prog X.w) X.A (noteFrame er X.env) (fun _ s₂ => wpAny (model X.prog X.w) X.A (setFlight er none) (fun _ s₃ =>
    wpAny (model X.prog X.w) X.A (handleBy er X.env [.ExceptHandler (some (.Tuple [.Name x1 np1, .Name x2 np2, .Name x3 np3, .Name x4 np4] kt npt)) (some n) (b₀ :: suite) pos']) (SP X pins D) X.xe s₃) X.xe s₂) X.xe s₁) (fun u s' air => ?_) PassesOwn.looking).run [] s σ H D (I.toTry _) hread) (fun fl s1 hsp => ?_) (fun _ _ z => z)
  · obtain ⟨a, B, sI, pins', σ', H', cls, d, rfl, J', inB, up, sky, na, eos, gs, b, hb, yes, no⟩ := air
    have J : L2.Inv X pins σ' H' sI := J'.ofTry okX
    have sky1 : Sky B (X.env :: X.outer) a (Zc cls d) X.env.locals s'.heap := by rw [← hstk]; exact sky
    show wpAny (model X.prog X.w) X.A (noteFrame (.ref a) X.env) _ _ _
    refine Sky.land Zc.steady fr0 hfrm sky1 fun h3 f3 up3 => ?_
    have J3 : L2.Inv X pins σ' H' { s' with heap := h3 } := J.landed inB f3.1 (up.trans up3) eos gs
    obtain ⟨oe3, vs3, at3, z3, dat3⟩ := f3.there
    have outside : a ∉ frs (X.env :: X.outer) := fun hm => by
      obtain ⟨_, o', e', hnf⟩ := f3.2.2.1.mem hm
      rw [at3] at e'
      cases e'
      exact hnf _ dat3
    have nL : a ≠ X.env.locals := fun z => outside (List.mem_filterMap.mpr ⟨X.env, List.mem_cons_self, by rw [hfrm, z]⟩)
    have nF : a ∉ X.fs := fun hm => by
      obtain ⟨en, hen, q⟩ := List.mem_filterMap.mp hm
      exact outside (List.mem_filterMap.mpr ⟨en, List.mem_cons_of_mem _ hen, q⟩)
    have notI : sI.heap.get? a = none := by
      cases q : sI.heap.get? a with
      | none => rfl
      | some o =>
        have q2 := inB a o q (by rw [hstk]; exact outside)
        rw [f3.2.1] at q2
        cases q2
    have not0 : X.s_0.heap.get? a = none := by
      cases q : X.s_0.heap.get? a with
      | none => rfl
      | some o =>
        obtain ⟨o', q2⟩ := J.base.there a o q (by rw [hex]; simp)
        rw [notI] at q2
        cases q2
    have notP : ∀ p ∈ X.pn ++ pins, p.1 ≠ a := fun p hp z => by
      have q := (J.pin p hp).1
      rw [z, notI] at q
      cases q
    have S3 := J3.suite at3 dat3 na nL nF
    refine wpAny_handleBy_cons (codeAny_handlers_test ?_) (by intro q; cases q)
    have look1 : PySem.W.Looks (model X.prog X.w) h3 (typeOf (.ref a)) cls := fun A Q E s k q => wpAny_typeOf_ref (k _ _ at3) (by rw [z3.1]; exact q)
    have ask : ∀ {x : Str} {c : Value} {np : Pos} {Q : Value → Shared → Prop} {E : Value → Shared → Prop}, Names X x c → Q c { s' with heap := h3 } → wpAny (model X.prog X.w) (X.A.mark (some (.ref a))) (eval (.Name x np) X.env) Q E { s' with heap := h3 } := fun {x c np Q E} hcls q => by
      obtain ⟨g1, g2, g3 | ⟨g3, g4, g5⟩⟩ := hcls
      · exact ld_glob (X := X.suite a ((a, oe3) :: (X.pn ++ pins))) S3 g1 g3 q g2
      · exact ld_blt (X := X.suite a ((a, oe3) :: (X.pn ++ pins))) S3 g1 g3 g4 q g5 g2
    obtain ⟨h5, hh5⟩ : ∃ h5, h5 = h3.push { cls := .type "tuple", data := .seq [c1, c2, c3, c4].toArray } := ⟨_, rfl⟩
    have k5 : ∀ b o, h3.get? b = some o → h5.get? b = some o := fun b o e => by rw [hh5]; exact Heap.get?_push_of_some _ e
    have up5 : h3.UpToSlots h5 := fun b o e _ => ⟨o.slots, k5 b o e⟩
    have f5 := flying_more k5 f3
    have at5 := k5 _ _ at3
    have tup5 : h5.get? h3.objs.size = some { cls := .type "tuple", data := .seq [c1, c2, c3, c4].toArray } := by rw [hh5]; exact Heap.get?_push_size _ rfl
    have J5 : L2.Inv X pins σ' H' { s' with heap := h5 } := J.landed inB f5.1 ((up.trans up3).trans up5) eos gs
    have look5 : PySem.W.Looks (model X.prog X.w) h5 (typeOf (.ref a)) cls := fun A Q E s k q => wpAny_typeOf_ref (k _ _ at5) (by rw [z3.1]; exact q)
    have look2 := PySem.W.exm_tup4 (M := model X.prog X.w) (J5.kIn) look5 tup5 hb
    have askT : ∀ {Q : Value → Shared → Prop} {E : Value → Shared → Prop}, Q (.ref h3.objs.size) { s' with heap := h5 } → wpAny (model X.prog X.w) (X.A.mark (some (.ref a))) (eval (.Tuple [.Name x1 np1, .Name x2 np2, .Name x3 np3, .Name x4 np4] kt npt) X.env) Q E { s' with heap := h3 } := fun {Q E} q => by
      refine wpAny_Tuple_spliced ?_
      rw [hst]
      refine Calls.spliced_cons (ask hc1 (Calls.spliced_cons (ask hc2 (Calls.spliced_cons (ask hc3 (Calls.spliced_cons (ask hc4 (Calls.spliced_nil ⟨by show 4 ≤ sizeLine; decide, ?_⟩))))))))
      rw [hh5] at q
      exact q
    refine askT (look2.here ?_)
    cases b with
    | true =>
      refine codeAny_handlers_suite_as ?_
      refine HandSPX.lands_againZ f5 fun h4 f4 up4 => ?_
      have J4 : L2.Inv X pins σ' H' { s' with heap := h4 } := J.landed inB f4.1 (((up.trans up3).trans up5).trans up4) eos gs
      obtain ⟨oe4, vs4, at4, z4, dat4⟩ := f4.there
      have S4 := J4.suite at4 dat4 na nL nF
      refine store_ok (X := X.suite a ((a, oe4) :: (X.pn ++ pins))) (v := .ref a) S4 hnd hix (.inl hkind) rfl (fun s5 S5 => ?_) (.inr hkind)
      refine wpAny_mono ((hsuite a oe4 cls d (X.pn ++ pins) z4 ⟨_, dat4⟩).run [] s5 _ H' _ S5 (yes rfl a oe4 vs4 na z4 dat4)) (fun fl s6 hsp => ?_) (fun _ _ z => False.elim z)
      have fin : ∀ {σ6 : L2.St} {H6 : Hp} {Q : Shared → Prop}, L2.Inv (X.suite a ((a, oe4) :: (X.pn ++ pins))) [] σ6 H6 s6 → (∀ s7, L2.Inv X pins (σ6.set i none) (upd H6 a (exk a oe4)) s7 → Q s7) →
          wpAny (model X.prog X.w) X.A (do bindName X.env n .none; unbindBehindTheSuite X.env n pos') (fun _ s7 => Q s7) X.xe s6 := fun {σ6 H6 Q} S6 hq => by
        obtain ⟨p1, p2, _⟩ := S6.pin (a, oe4) (List.mem_append_left _ List.mem_cons_self)
        exact gone_ok (track (S6.unsuite okX) p1 dat4 p2 not0 nL notP) hnd hix hkind hq
      cases fl with
      | next =>
        obtain ⟨σ6, H6, S6, q6⟩ := hsp
        exact fin S6 fun s7 J7 => ⟨_, _, J7, q6⟩
      | brk =>
        obtain ⟨σ6, H6, S6, q6⟩ := hsp
        exact fin S6 fun s7 J7 => ⟨_, _, J7, q6⟩
      | cont =>
        obtain ⟨σ6, H6, S6, q6⟩ := hsp
        exact fin S6 fun s7 J7 => ⟨_, _, J7, q6⟩
      | ret u =>
        obtain ⟨v6, σ6, H6, S6, r6, q6⟩ := hsp
        exact fin S6 fun s7 J7 => ⟨_, _, _, J7, r6, q6⟩
    | false =>
      show wpAny _ X.A (handleBy (.ref a) X.env []) _ _ _
      refine wpAny_handleBy_nil ?_
      obtain ⟨k1, k2, k3, oe, vs, T, oT, ts', he, hz, hdt, h1, hrr⟩ := id f5
      unfold PySem.passOn
      refine wpAny_bind (wpAny_field he hdt h1 ?_)
      rw [if_neg (show ¬ ((Value.ref T == Value.none) = true) from by simp)]
      have away : wpAny (model X.prog X.w) X.A (setFlight (.ref a) X.env.frame) (fun _ s4 => wpAny (model X.prog X.w) X.A (throw (.ref a) : Sem Flow) (SP X pins D) X.xe s4) X.xe { s' with heap := h5 } := by
        rw [hfrm]
        refine HandSPX.setFlight_upZ f5 fun h4 hh4 up4 => wpAny_throw (tk _ _ ?_)
        exact ⟨a, B, sI, pins, σ', H', cls, d, rfl, J, inB, ((up.trans up3).trans up5).trans up4, .inr (.inr (by rw [hstk]; exact hh4)), na, eos, gs, no rfl⟩
      first
        | exact wpAny_bind (wpAny_pure (wpAny_bind away))
        | exact wpAny_bind away
  · cases fl with
    | next =>
      obtain ⟨σ', H', J', q⟩ := hsp
      exact wpAny_execs_nil ⟨σ', H', J'.ofTry okX, q⟩
    | brk =>
      obtain ⟨σ', H', J', q⟩ := hsp
      exact ⟨σ', H', J'.ofTry okX, q⟩
    | cont =>
      obtain ⟨σ', H', J', q⟩ := hsp
      exact ⟨σ', H', J'.ofTry okX, q⟩
    | ret u =>
      obtain ⟨v, σ', H', J', r, q⟩ := hsp
      exact ⟨v, σ', H', J'.ofTry okX, r, q⟩
end
section
variable {W : Wp} {Wx : L2.St → XK}
theorem ds_tryT {tb : WX → L2.TS} {δ : DS} {cs : List Value} {i j : Nat} {exm : Str → Option Bool} (hij : i ≠ j) (hx : ∀ s b, exm s = some b → PySem.W.exmAny W.K (.ref (W.cm s)) cs = some b)
    (hb : ∀ Wz : WX, DnS W (fun σ cls d H => Wz cls d σ H) (tb Wz) δ) :
    DnS W Wx (fun D σ H => tb (wKeepT W.K cs i (fun _ _ _ => tSeq (tAsg (tVar i) (gName j)) tNext) (fun cls d σ H => Wx σ cls d H) D) D σ H) (dTryK exm i j δ) := fun tp0 G0 H0 tp G H σ ρ τ D E P => by
  refine hb _ _ _ _ _ _ _ _ _ _ _ E ?_
  unfold dTryK at P
  revert P
  match δ ρ τ with
  | .ok (.nx ρ') τ' => exact fun P => P
  | .ok (.bk ρ') τ' => exact fun P => P
  | .ok (.ct ρ') τ' => exact fun P => P
  | .ok (.rt d) τ' => exact fun P => P
  | .ok (.ro d) τ' => exact fun P => P
  | .ex x τ' => exact fun P => P
  | .no => exact fun P => P
  | .ok (.xc x ρ1) τ1 =>
    intro P d tp' G1 H1 σ1 s1 E1 hxr
    cases hm : exm x.cls with
    | none => simp only [hm] at P; exact P.elim
    | some b =>
      refine ⟨b, hx _ _ hm, fun hb1 a oe vs na z dt => ?_, fun hb0 => ?_⟩
      · subst hb1
        simp only [hm] at P
        obtain ⟨xs, hd, rf⟩ := hxr
        have E2 : EnvS W tp0 G0 H0 tp' (G1.upd a (exk a oe)) (upd H1 a (exk a oe)) σ1 ρ1 τ1 := E1.step (Ext.new na E1.v.g) (E1.v.new na)
        have sg : GS G1 (G1.upd a (exk a oe)) := GS.new (E1.v.g.free na)
        have r : Rp W.K W.cm (G1.upd a (exk a oe)) (.ref a) (.exc x.cls x.fs) := .exc upd_same z dt (hd.mono sg.s) (rf.mono sg)
        have E3 := (E2.setF (i := j) r)
        have E4 : EnvS W tp0 G0 H0 tp' (G1.upd a (exk a oe)) (upd H1 a (exk a oe)) ((σ1.set j (some (.ref a))).set i none) ((ρ1.set j (some (.fr (.exc x.cls x.fs)))).set i none) τ1 :=
          E3.sub E3.v.setN (Sub.set fun _ z => by cases z)
        by_cases hi : i < ρ1.length
        · rw [if_pos hi] at P
          have := P tp' _ _ _ (s1.trans sg) E4
          have hl : i < σ1.length := by have := E1.v.s.length; omega
          refine ⟨_, List.getElem?_set_self hl, ?_⟩
          show D.nx (((σ1.set i (some (.ref a))).set j (some (.ref a))).set i none) (upd H1 a (exk a oe))
          rw [List.set_comm _ _ hij, List.set_set]
          exact this
        · rw [if_neg hi] at P
          exact P.elim
      · subst hb0
        simp only [hm] at P
        exact P d tp' G1 H1 σ1 s1 E1 hxr
end
theorem exmAny4 {K : PySem.W.Frag} {cls c1 c2 c3 c4 : Value} {b1 b2 b3 b4 : Bool} (h1 : PySem.W.exmOne K cls c1 = some b1) (h2 : PySem.W.exmOne K cls c2 = some b2) (h3 : PySem.W.exmOne K cls c3 = some b3) (h4 : PySem.W.exmOne K cls c4 = some b4) :
    PySem.W.exmAny K cls [c1, c2, c3, c4] = some (b1 || (b2 || (b3 || (b4 || false)))) := by
  simp only [PySem.W.exmAny, h1, h2, h3, h4]
end Np
set_option Elab.async false
set_option linter.all false
set_option maxRecDepth 100000
set_option maxHeartbeats 4000000
namespace Np
open PySem PySem.Spec PyProof.Rows L2
def sortI (ns : List Int) : List Int := ns.mergeSort fun a b => decide (a ≤ b)
def gSortI : DD → Option DD
  | .lst ds => (ints? ds).map fun ns => .lst ((sortI ns).map DD.int)
  | _ => none
end Np
set_option Elab.async false
set_option linter.all false
set_option maxRecDepth 100000
set_option maxHeartbeats 4000000
namespace Np
open PySem PySem.Spec PyProof.Rows L2
section
variable {W : Wp} {Wx : L2.St → XK} {ta : TA} {δa : DA}
def dLenO (cls : Str) (F : Fn) (a : DA) : DE := fun ρ τ => (a ρ τ).bind fun xs τ1 => match xs with
  | [.obj C fs] => if C = cls then (F [.fr (.obj C fs)] τ1).nox.bind fun d τ2 => match d with
      | .int n => if 0 ≤ n ∧ n < 2 ^ 63 then .ok (.int n) τ2 else .no
      | _ => .no
    else .no
  | _ => .no
end
end Np
set_option Elab.async false
set_option linter.all false
set_option maxRecDepth 100000
set_option maxHeartbeats 4000000
namespace Np
open PySem PySem.Spec PyProof.Rows L2
/-- str(v) in one fixed model: what strOf does there -/
theorem str_call {prog : Program} {w : World} {A : Around} {E : Value → Shared → Prop} {s : Shared} {v : Value} {Q : Value → Shared → Prop}
    (hstr : wpAny (model prog w) A.in1.in1 (Builtin.Str.strOf v) (fun r s' => s'.TypeIs r "str" ∧ Q r s') E s) : wpAny (model prog w) A (call (.type "str") [v]) Q E s := by
  have ft := F.called_str
  obtain ⟨c, tl, hmro⟩ := ft.mro
  have hmade := ft.made
  have hsub := ft.sub
  refine wpAny_call (codeAny_of_tree ?_)
  show wpAny _ _ (callAny (.type "str") _) _ _ _
  refine wpAny_pure ⟨Code.quiet_builtin _ (by decide +kernel), codeAny_builtin F.entry_type_call ?_⟩
  rw [Around.under_plain (weight_type_call_type "str" [v] []) (units_type_call_type "str" [v] [])]
  have h1 := ft.notType
  have h2 := ft.canCreate
  have hct := F.typeCall_str_1 v
  repeat (any_goals (first | assumption | wp_step))
  refine codeAny_mono (R := wants (fun obj s₁ => s₁.TypeIs obj "str" ∧ Q obj s₁) E) (codeAny_call_builtin ft.plain F.entry_str_new (wpAny_of_eq (F.newCall_str_1 v) ?_)) fun r s₁ hr => ?_
  · rw [str_new_tree v]
    refine wpAny_bind (wpAny_pure ?_)
    refine wpAny_bind (wpAny_of_eq isSubtype_str_str ?_)
    exact wpAny_bind (wpAny_mono hstr (fun r s' h' => wpAny_pure h') fun _ _ e => e)
  · cases r with
    | error e => exact hr
    | ok fl =>
      cases fl with
      | ret obj =>
        obtain ⟨hT, hQ⟩ : s₁.TypeIs obj "str" ∧ Q obj s₁ := hr
        have hok := F.args_object_init_2 obj v
        have hli := ft.init.lookup
        have hbi := ft.init.bind obj
        repeat (any_goals (first | assumption | wp_step))
        have gi := object_init_meets (self := obj) (rest := [v]) ft.init.lookup ft.made (by decide)
        refine codeAny_mono (R := wants (fun r s₂ => r = .none ∧ Q obj s₂) E) (codeAny_call_builtin ft.init.plain F.entry_object_init (ft.init.check _ _ _ _ _ _ _ _ hT hok (gi prog w A.in1 _ s₁ ⟨hT, rfl, hQ⟩))) fun r₂ s₂ hr₂ => ?_
        cases r₂ with
        | error e => exact hr₂
        | ok fl₂ =>
          cases fl₂ with
          | ret r =>
            obtain ⟨rfl, hq⟩ := hr₂
            repeat (any_goals (first | assumption | wp_step))
          | _ => exact hr₂.elim
      | _ => exact hr.elim
theorem strOf_fn {prog : Program} {w : World} {A : Around} {E : Value → Shared → Prop} {s : Shared} {K : PySem.W.Frag} {x C f : Addr} {ox : Obj} {od : Option Obj} {Q : Value → Shared → Prop} (hu : A.units < cLine) (X : K.In s.heap) (I : PySem.W.InstAt s.heap x ox C od)
    (hs : PySem.W.findIn K (.ref C) "__str__" = some (some (.ref f))) (hf : PySem.W.isFn K (.ref f) = true)
    (h : wpAny (model prog w) A (call (.ref f) [.ref x]) (fun r s' => ∃ z t, r = .str z t ∧ Q (.str z t) s') E s) : wpAny (model prog w) A (Builtin.Str.strOf (.ref x)) Q E s := by
  unfold Builtin.Str.strOf
  rw [if_neg (show ¬ Builtin.Str.isExactStr (Value.ref x) = true from by intro z; cases z)]
  refine wpAny_bind (wpAny_cRoomFor hu ?_)
  refine wpAny_bind (m := callSpecial? (.ref x) (Str.ofString "__str__")) (PySem.W.special_fn X I hs (beq_iff_eq.mp hf) (wpAny_mono h (fun r s' hr => ?_) fun _ _ y => y))
  obtain ⟨z, t, rfl, q⟩ := hr
  repeat (any_goals (first | assumption | wp_step))
/-- str(x) of a kept exception by an own __str__ -/
def rStrX (C : Addr) (sp : Sp) : List V → Hp → VK → Prop := fun xs H Q => ∃ (a : Addr) (d : Option Addr) (fs : List (Str × V)), xs = [.ref a] ∧ Kept H a C d fs ∧ sp [.ref a] H (fun v H' => ∃ z : Str, v = .str z ∧ Q (.str z) H') E0
theorem cr_strX {X : Cx} {C f : Addr} {fd : FuncData} {ps : List Str} {sp : Sp} {k : Nat} (F : FnG X.prog X.w X.K X.mg X.base CX0 k f fd ps sp) (hgd : X.A.guards = some []) (hr : Room (k + 2) X.A) (hb : Binds X.K fd ps [])
    (hs : PySem.W.findIn X.K (.ref C) "__str__" = some (some (.ref f))) (hf : PySem.W.isFn X.K (.ref f) = true) : CallR X (.type "str") (rStrX C sp) := by
  intro pins s σ H xs us Q I r h
  obtain ⟨a, d, fs, rfl, kp, hsp⟩ := h
  cases r with | cons r rr =>
  cases rr
  cases r
  obtain ⟨oe, od, J, _⟩ := kp.inst I
  refine str_call (strOf_fn (K := X.K) (by have := hr.in1.in1.un; omega) I.kIn J hs hf ?_)
  have e0 : Env0 X.prog X.w X.K X.mg X.base X.A.in1.in1 X.stack s H := by
    have e := I.env0
    exact ⟨e.frames, e.mod, e.bs, e.bsz, e.funs, e.frf, e.hok, e.bare⟩
  have hl := F.len _ _ _ _ hsp
  have r2 : Vals [V.ref a] [Value.ref a] := .cons rfl .nil
  refine wpAny_call (codeAny_mono (F.run X.A.in1.in1 X.stack s H ⟨[.ref a], []⟩ [.ref a] [.ref a] _ E0 hgd hr.in1.in1 e0 (by
    have := hb s [.ref a] I.kIn (by simpa using hl)
    simpa using this) r2 hsp) fun r s' hq => ?_)
  cases r with
  | error e => exact hq.elim
  | ok fl =>
    cases fl with
    | ret u =>
      obtain ⟨z, H', I', rz, y, ez, q⟩ := I.after hq
      subst ez
      obtain ⟨t, rfl⟩ := rz
      exact ⟨y, t, rfl, typeIs_str _ _ _, .str y, H', I', ⟨_, rfl⟩, q⟩
    | next => exact False.elim hq
    | brk => exact False.elim hq
    | cont => exact False.elim hq
section
variable {W : Wp} {Wx : L2.St → XK} {ta : TA} {δa : DA}
def dStrX (cls : Str) (F : Fn) (a : DA) : DE := fun ρ τ => (a ρ τ).bind fun xs τ1 => match xs with
  | [.exc C fs] => if C = cls then (F [.fr (.exc C fs)] τ1).nox.bind fun d τ2 => match d with
      | .str z => .ok (.str z) τ2
      | _ => .no
    else .no
  | _ => .no
theorem dn_strX {cls : Str} {C : Addr} {F : Fn} (hC : W.cm cls = C) (ha : DnA W Wx ta δa) : Dn W Wx (tCB (rStrX C (spP W 1 F)) ta) (dStrX cls F δa) := fun tp G H σ ρ τ Q E P =>
  ha _ _ _ _ _ _ _ E (P.bind fun as τ1 vs G1 H1 e1 E1 r1 P1 => by
    subst hC
    split at P1
    · rename_i C fs
      by_cases h : C = cls
      · subst h
        rw [if_pos rfl] at P1
        cases r1 with | cons r rs =>
        cases rs
        obtain ⟨p, d, xs, rfl, kp, nz, rf⟩ := r.kept
        refine ⟨p, _, xs, rfl, kp.mono E1.g.s, rfl, tp, G1, _, τ1, E1.g, .cons (show ArgR W tp G1 _ (.fr _) from r) .nil, E1.t, ?_⟩
        revert P1
        cases F [.fr (.exc C fs)] τ1 with
        | ok d τ' =>
          intro P1 v G' H' e s t r
          cases d <;> first | exact P1.elim | skip
          rename_i z
          simp only [R.nox_ok, R.bind_ok] at P1
          exact ⟨z, r.str_of, P1 _ G' H' e (E1.ext e s t) (.str z)⟩
        | ex x τ' => exact fun P1 => P1.elim
        | no => exact fun P1 => P1.elim
      · rw [if_neg h] at P1
        exact P1.elim
    · exact P1.elim)
end
/-- what a class with an own __str__ brings -/
def StrC (P : Program) (w : World) (K : PySem.W.Frag) (mg : Str → Option Value) (base : Heap) (k : Nat) (C : Addr) (ps : List Str) (sp : Sp) : Prop :=
  ∃ (f : Addr) (fd : FuncData), FnG P w K mg base CX0 k f fd ps sp ∧ Binds K fd ps [] ∧ PySem.W.findIn K (.ref C) "__str__" = some (some (.ref f)) ∧ PySem.W.isFn K (.ref f) = true
theorem cr_strC {X : Cx} {C : Addr} {ps : List Str} {sp : Sp} {k : Nat} (h : StrC X.prog X.w X.K X.mg X.base k C ps sp) (hgd : X.A.guards = some []) (hr : Room (k + 2) X.A) : CallR X (.type "str") (rStrX C sp) := by
  obtain ⟨f, fd, F, hb, hs, hf⟩ := h
  exact cr_strX F hgd hr hb hs hf
end Np
set_option Elab.async false
set_option linter.all false
set_option maxRecDepth 100000
set_option maxHeartbeats 4000000
namespace Np
open PySem PySem.Spec PyProof.Rows L2
/-- what a class brings that is made -/
def MkC (P : Program) (w : World) (K : PySem.W.Frag) (mg : Str → Option Value) (base : Heap) (CX : CXT) (k : Nat) (C : Addr) (ps : List Str) (sp : Sp) (n : Nat) (ks : List Str) (gV : List V → List V → List V) : Prop :=
  ∃ (f : Addr) (fd : FuncData), Mk K C f ∧ FnG P w K mg base CX k f fd ps sp ∧ KB K fd ps (n + 1) ks gV
section
variable {X : Cx} {CX : CXT} {k n : Nat} {f C : Addr} {fd : FuncData} {ps ks : List Str} {sp : Sp} {E : L2.St → XK} {x : Str} {p pos : Pos} {e : Expr} {es : List Expr} {kws : List Keyword} {t tk : TA} {g : List Value → List Value → List Value} {gV : List V → List V → List V}
theorem MkC.kp (h : MkC X.prog X.w X.K X.mg X.base CX k C ps sp n ks gV) : PySem.W.keepIn X.K (.ref C) = true := by
  obtain ⟨f, fd, M, _⟩ := h
  exact M.kp
end
abbrev FnI := Addr → List PV → TS' → R DD
open Classical in
noncomputable def allX (F : FnI) (as : List PV) (τ : TS') : R DD := if h : ∃ r, ∀ x, F x as τ = r then h.choose else .no
def IPost (W : Wp) (tp : Option Addr) (G : GH) (H : Hp) (x : Addr) (Q : VK) (E : XK) : R DD → Prop
  | .ok d τ' => ∀ G' H', Ext tp G H G' H' → SB W G' H' → TapeO W G' H' tp τ' → Rp W.K W.cm G' (.ref x) d → Q .non H'
  | .ex e τ' => ∀ d G' H', Ext tp G H G' H' → SB W G' H' → TapeO W G' H' tp τ' → ExR W G' H' e d → E (.ref (W.cm e.cls)) d H'
  | .no => False
def spI (W : Wp) (k : Nat) (cls : Str) (F : FnI) : Sp := fun vs H1 Q E => vs.length = k ∧ ∃ x dx H rest tp G as τ, vs = .ref x :: rest ∧ H x = none ∧ H dx = none ∧ dx ≠ x ∧ H1 = upd (upd H dx (.own x)) x (.ins (W.cm cls) dx []) ∧
  SB W G H ∧ Paired (ArgR W tp G) rest as ∧ TapeO W G H tp τ ∧ IPost W tp G H x Q E (F x as τ)
noncomputable def dMkP (k n m : Nat) (F : FnI) (g : List PV → List PV → List PV) (a b : DPs) : DE := fun ρ τ => (a ρ τ).bind fun as τ1 => (b ρ τ1).bind fun bs τ2 => if as.length = n ∧ bs.length = m ∧ (g as bs).length + 1 = k then allX F (g as bs) τ2 else .no
noncomputable def dMkN' (k n m : Nat) (F : FnI) (g : List PV → List PV → List PV) (a b : DPs) : DE := fun ρ τ => (a ρ τ).bind fun as τ1 => (b ρ τ1).bind fun bs τ2 => if as.length = n ∧ bs.length = m ∧ (g as bs).length + 1 = k then (allX F (g as bs) τ2).nox else .no
def putD (f : Str) (v : DD) : List (Str × DD) → List (Str × DD)
  | [] => [(f, v)]
  | (g, x) :: r => if g = f then (g, v) :: r else (g, x) :: putD f v r
theorem RpF.put {K : PySem.W.Frag} {cm : CM} {G : GH} {f : Str} {v : V} {d : DD} (h : Rp K cm G v d) : ∀ {vs : List (Str × V)} {ds : List (Str × DD)}, RpF K cm G vs ds → RpF K cm G (putF f v vs) (putD f d ds)
  | _, _, .nil => .cons h .nil
  | _, _, .cons (k := k) a r => by
    unfold putF putD
    by_cases e : k = f
    · rw [if_pos e, if_pos e]; exact .cons h r
    · rw [if_neg e, if_neg e]; exact .cons a (RpF.put h r)
theorem RpF.len {K : PySem.W.Frag} {cm : CM} {G : GH} : ∀ {vs : List (Str × V)} {ds : List (Str × DD)}, RpF K cm G vs ds → vs.length = ds.length
  | _, _, .nil => rfl
  | _, _, .cons _ r => congrArg Nat.succ (RpF.len r)
abbrev DI' := PEnv → TS' → List (Str × DD) → R DD
structure EnvI (W : Wp) (cls : Str) (x dx : Addr) (tp0 : Option Addr) (G0 : GH) (H0 : Hp) (tp : Option Addr) (G : GH) (H : Hp) (σ : L2.St) (ρ : PEnv) (τ : TS') (vs : List (Str × V)) (fs : List (Str × DD)) : Prop where
  e : EnvS W tp0 G0 H0 tp G H σ ρ τ
  h0 : H0 x = none
  g : G x = none
  nt : NoM tp G x
  fr : FreeP W G H σ ρ x
  me : ρ[0]? = some (some (.fr (.raw x)))
  at' : H x = some (.ins (W.cm cls) dx vs)
  r : RpF W.K W.cm G vs fs
def PsI (W : Wp) (E : XK) (tp0 : Option Addr) (G0 : GH) (H0 : Hp) (x : Addr) (D : Ends) : R DD → Prop
  | .ok d τ => ∀ tp' G' H' σ', Ext tp0 G0 H0 G' H' → SB W G' H' → TapeO W G' H' tp' τ → (tp' = tp0 ∨ tp0 = none) → Rp W.K W.cm G' (.ref x) d → D.nx σ' H'
  | .ex e τ => ∀ d tp' G' H', Ext tp0 G0 H0 G' H' → SB W G' H' → TapeO W G' H' tp' τ → (tp' = tp0 ∨ tp0 = none) → ExR W G' H' e d → E (.ref (W.cm e.cls)) d H'
  | .no => False
def dIEnd (cls : Str) : DI' := fun _ τ fs => .ok (.obj cls fs) τ
def dISet (f : Str) (e : DE) (r : DI') : DI' := fun ρ τ fs => (e ρ τ).bind fun d τ1 => if fs.length < 1000 then r ρ τ1 (putD f d fs) else .no
section
variable {W : Wp} {E : XK} {cls f : Str} {x dx : Addr} {tp0 tp : Option Addr} {G0 G : GH} {H0 H : Hp} {σ : L2.St} {ρ : PEnv} {τ : TS'} {vs : List (Str × V)} {fs : List (Str × DD)} {te : TE} {δe : DE} {t : L2.TS} {δ : DI'}
theorem EnvI.done (I : EnvI W cls x dx tp0 G0 H0 tp G H σ ρ τ vs fs) {D : Ends} (P : PsI W E tp0 G0 H0 x D (dIEnd cls ρ τ fs)) : D.nx σ H := by
  have sg : GS G (G.upd x (.ins (W.cm cls) dx vs)) := GS.new I.g
  exact P tp (G.upd x (.ins (W.cm cls) dx vs)) H σ (I.e.e.frzN I.h0 I.g) (I.e.v.g.frz I.at' rfl) (I.e.v.t.frz1 I.g I.nt) (I.e.t.imp id fun z => z.1) (.obj upd_same (I.r.mono sg))
theorem EnvI.set {τ1 : TS'} {G1 : GH} {H1 : Hp} {v : V} {d : DD} (I : EnvI W cls x dx tp0 G0 H0 tp G H σ ρ τ vs fs) (e1 : Ext tp G H G1 H1) (E1 : EnvV W tp G1 H1 σ ρ τ1) (r1 : Rp W.K W.cm G1 v d) :
    H1 x = some (.ins (W.cm cls) dx vs) ∧ σ[0]? = some (some (.ref x)) ∧ EnvI W cls x dx tp0 G0 H0 tp G1 (upd H1 x (.ins (W.cm cls) dx (putF f v vs))) σ ρ τ1 (putF f v vs) (putD f d fs) := by
  have hx1 := e1.h x _ I.nt rfl I.at'
  have nt1 := e1.nom I.nt (by rw [I.at']; simp)
  have gx1 : G1 x = none := e1.f x I.nt ⟨_, I.at', rfl⟩ I.g
  have s0 : σ[0]? = some (some (.ref x)) := by
    obtain ⟨u, h1, h2⟩ := Paired.getL E1.s I.me
    cases u with
    | none => exact h2.elim
    | some u => cases (show Rp W.K W.cm G1 u (.raw x) from h2); exact h1
  have fr1 : FreeP W G1 H1 σ ρ x := fun j c a F h1 h2 w => I.fr j c a F h1 h2 (I.e.v.backE e1 h1 h2 w)
  have E1s := I.e.step e1 E1
  have E2 := E1.mutH (o := .ins (W.cm cls) dx (putF f v vs)) gx1 nt1 ⟨_, hx1, rfl⟩ fr1
  have bk : ∀ {j : Nat} {c : OC} {a : Addr} {F : List Addr}, ρ[j]? = some (some (PV.ow c)) → σ[j]? = some (some (V.ref a)) → OwR W G1 (upd H1 x (.ins (W.cm cls) dx (putF f v vs))) a c F → OwR W G1 H1 a c F := fun {j c a F} h1 h2 w => by
    obtain ⟨F0, w0, _⟩ := E1.own h1 h2
    have w1 : OwR W G1 (upd H1 x (.ins (W.cm cls) dx (putF f v vs))) a c F0 := w0.keep (GS.refl _) fun q hq u hu => by
      rw [upd_ne (fun z => fr1 _ _ _ _ h1 h2 w0 (by rw [← z]; exact hq))]; exact hu
    rw [w.uniq w1]
    exact w0
  refine ⟨hx1, s0, ⟨E2, E1s.e.mut I.h0, fun j c a F h1 h2 w => E1s.o j c a F h1 h2 (bk h1 h2 w), I.e.t⟩, I.h0, gx1, nt1, fun j c a F h1 h2 w => fr1 j c a F h1 h2 (bk h1 h2 w), I.me, upd_same, RpF.put r1 (I.r.mono e1.g)⟩
end
def fixR (τ : TS') : R DD → R DD
  | .ok d τ' => .ok d (fixT τ τ')
  | .ex x τ' => .ex x (fixT τ τ')
  | .no => .no
/-- what stands ahead of the first field, then the fields -/
def bodyI2 (tail : DI') (x : Addr) (τ : TS') (ρ : PEnv) (τ' : TS') : Option (Option PV) → R DD
  | some (some (.fr (.raw y))) => if y = x then fixR τ (tail ρ τ' []) else .no
  | _ => .no
theorem TapeO.newH {W : Wp} {tp : Option Addr} {G : GH} {H : Hp} {τ : TS'} {p : Addr} {o : HO} (t : TapeO W G H tp τ) (n : H p = none) : TapeO W G (upd H p o) tp τ := t.ext (Ext.newH n)
end Np
set_option Elab.async false
set_option linter.all false
set_option maxRecDepth 100000
set_option maxHeartbeats 4000000
namespace Np
open PySem PySem.Spec PyProof.Rows L2
def dMethN (k : Nat) (cls m : Str) (F : Fn) (a : DE) (r : DPs) : DE := fun ρ τ => (a ρ τ).bind fun x τ1 => match x with
  | .obj C fs => if C = cls ∧ fs.lookup m = none then (r ρ τ1).bind fun as τ2 => if as.length + 1 = k then (F (.fr (.obj C fs) :: as) τ2).nox else .no
    else .no
  | _ => .no
section
variable {W : Wp} {Wx : L2.St → XK} {ta : TA} {δa : DA}
def dStrO (cls : Str) (F : Fn) (a : DA) : DE := fun ρ τ => (a ρ τ).bind fun xs τ1 => match xs with
  | [.obj C fs] => if C = cls then (F [.fr (.obj C fs)] τ1).nox.bind fun d τ2 => match d with
      | .str z => .ok (.str z) τ2
      | _ => .no
    else .no
  | _ => .no
end
end Np
set_option Elab.async false
set_option linter.all false
set_option maxRecDepth 100000
set_option maxHeartbeats 4000000
namespace Np
open PySem PySem.Spec PyProof.Rows L2
/-- y may stand beside an object of the class -/
def sideY (cls : Str) : DD → Bool
  | .obj C _ => decide (C = cls)
  | .exc _ _ => false
  | .raw _ => false
  | .ptr _ => false
  | .tux _ => false
  | _ => true
def dEqO (neg : Bool) (cls : Str) (F : Fn) (a b : DE) : DE := fun ρ τ => (a ρ τ).bind fun x τ1 => (b ρ τ1).bind fun y τ2 => match x with
  | .obj C fs => if C = cls ∧ sideY cls y = true then (F [.fr (.obj C fs), .fr y] τ2).nox.bind fun d τ3 => match d with
      | .bl r => .ok (.bl (xor neg r)) τ3
      | _ => .no
    else .no
  | _ => .no
section
variable {W : Wp} {Wx : L2.St → XK} {ta tb : TE} {δa δb : DE}
/-- isinstance(x, cls) of things of all kinds -/
def gIsO (cls : Str) : DD → Option DD
  | .obj C _ => if C = cls then some (.bl true) else none
  | .exc _ _ => none
  | .raw _ => none
  | .ptr _ => none
  | .tux _ => none
  | _ => some (.bl false)
end
end Np
set_option Elab.async false
set_option linter.all false
set_option maxRecDepth 100000
set_option maxHeartbeats 4000000
namespace Np
open PySem PySem.Spec PyProof.Rows L2
end Np
set_option Elab.async false
set_option linter.all false
set_option maxRecDepth 100000
set_option maxHeartbeats 4000000
namespace Np
open PySem PySem.Spec PyProof.Rows L2
def canSame (d x : DD) : Prop := ∃ (K : PySem.W.Frag) (cm : CM) (G : GH) (v : V), Rp K cm G v d ∧ Rp K cm G v x
def toB (r : R DD) : R Bool := r.nox.bind fun d τ => match d with
  | .bl b => .ok b τ
  | _ => .no
/-- a thing that declines == with an object -/
def thing : DD → Bool
  | .non => true
  | .int _ => true
  | .str _ => true
  | .lst _ => true
  | .tup _ => true
  | _ => false
open Classical in
/-- item == x inside a list -/
noncomputable def eq1D (cls : Str) (F : Fn) (d x : DD) (τ : TS') : R Bool := match d with
  | .obj C fs => if C = cls then (toB (F [.fr (.obj C fs), .fr x] τ)).bind fun b τ' => if (canSame (.obj C fs) x → b = true ∧ τ' = τ) then .ok b τ' else .no
    else .no
  | d => if thing d = true then toB (F [.fr x, .fr d] τ) else .no
noncomputable def inD (cls : Str) (F : Fn) (x : DD) : List DD → TS' → R Bool
  | [], τ => .ok false τ
  | d :: ds, τ => (eq1D cls F d x τ).bind fun b τ' => if b = true then .ok true τ' else inD cls F x ds τ'
noncomputable def dInO (neg : Bool) (cls : Str) (F : Fn) (a b : DE) : DE := fun ρ τ => (a ρ τ).bind fun x τ1 => (b ρ τ1).bind fun y τ2 => match x, y with
  | .obj C fs, .lst ds => if C = cls then (inD cls F (.obj C fs) ds τ2).bind fun r τ3 => .ok (.bl (xor neg r)) τ3 else .no
  | _, _ => .no
def dEqR (cls : Str) (F : Fn) (a b : DE) : DE := fun ρ τ => (a ρ τ).bind fun y τ1 => (b ρ τ1).bind fun x τ2 => match x with
  | .obj C fs => if C = cls ∧ thing y = true then (toB (F [.fr (.obj C fs), .fr y] τ2)).bind fun r τ3 => .ok (.bl r) τ3 else .no
  | _ => .no
end Np
set_option Elab.async false
set_option linter.all false
set_option maxRecDepth 100000
set_option maxHeartbeats 4000000
namespace Np
open PySem PySem.Spec PyProof.Rows L2
section
variable {W : Wp} {Wx : L2.St → XK} {ta : TA} {δa : DA}
def dBoolO (cls : Str) (F : Fn) (a : DA) : DE := fun ρ τ => (a ρ τ).bind fun xs τ1 => match xs with
  | [.obj C fs] => if C = cls then (F [.fr (.obj C fs)] τ1).nox.bind fun d τ2 => match d with
      | .int n => if 0 ≤ n ∧ n < 2 ^ 63 then .ok (.bl (n != 0)) τ2 else .no
      | _ => .no
    else .no
  | _ => .no
end
end Np
set_option Elab.async false
set_option linter.all false
set_option maxRecDepth 100000
set_option maxHeartbeats 4000000
namespace Np
open PySem PySem.Spec PyProof.Rows L2
def dMethON (k : Nat) (cls m : Str) (F : FnO) (a : DE) (r : DPs) : PEnv → TS' → R OC := fun ρ τ => (a ρ τ).bind fun x τ1 => match x with
  | .obj C fs => if C = cls ∧ fs.lookup m = none then (r ρ τ1).bind fun as τ2 => if as.length + 1 = k then (F (.fr (.obj C fs) :: as) τ2).nox else .no
    else .no
  | _ => .no
section
variable {W : Wp} {Wx : L2.St → XK} {ta te : TE} {tr : TA} {δa δe : DE} {δr : DPs} {φ : PEnv → TS' → R OC}
/-- f(..).append(c): a new list, changed and let go -/
def dDropApp (φ : PEnv → TS' → R OC) : DS := fun ρ τ => stE (φ ρ τ) ρ fun c τ1 => match c with
  | .lst xs => if xs.length < sizeLine then .ok (.nx ρ) τ1 else .no
  | _ => .no
end
end Np
set_option Elab.async false
set_option linter.all false
set_option maxRecDepth 100000
set_option maxHeartbeats 4000000
namespace Np
open PySem PySem.Spec PyProof.Rows L2
def gLenRg1 : DD → Option DD
  | .int n => if (n.toNat : Int) < 2 ^ 63 then some (.int n.toNat) else none
  | _ => none
section
variable {W : Wp} {Wx : L2.St → XK} {ta : TE} {δa : DE}
def gIsB : DD → DD → Option DD
  | .bl a, .bl b => some (.bl (decide (a = b)))
  | _, _ => none
def gSlT : DD → Option Int → Option Int → Option DD
  | .tup ds, lo, hi => some (.tup (cutL ds lo hi))
  | _, _, _ => none
end
end Np
set_option Elab.async false
set_option linter.all false
set_option maxRecDepth 100000
set_option maxHeartbeats 4000000
namespace Np
open PySem PySem.Spec PyProof.Rows L2
section
variable {W : Wp} {Wx : L2.St → XK} {tr tk : TA} {δr δk : DA}
def dIZipS (a b : DA) : DI := fun ρ τ => (a ρ τ).bind fun x τ1 => (b ρ τ1).bind fun y τ2 => match x, y with
  | [.lst ds, .lst es], [.bl true] => if ds.length = es.length then .ok (zipD ds es) τ2 else .no
  | _, _ => .no
end
end Np
set_option Elab.async false
set_option linter.all false
set_option maxRecDepth 100000
set_option maxHeartbeats 4000000
namespace Np
open PySem PySem.Spec PyProof.Rows L2
section
variable {W : Wp} {Wx : L2.St → XK} {te : TE} {φ : PEnv → TS' → R OC} {δa : DE}
def dDropClr (φ : PEnv → TS' → R OC) : DS := fun ρ τ => stE (φ ρ τ) ρ fun c τ1 => match c with
  | .lst _ => .ok (.nx ρ) τ1
  | _ => .no
end
section
variable {W : Wp} {Wx : L2.St → XK} {ta : TE} {δa : DE}
def dTruO (cls : Str) (F : Fn) (a : DE) : DT := fun ρ τ => (a ρ τ).bind fun x τ1 => match x with
  | .obj C fs => if C = cls then (F [.fr (.obj C fs)] τ1).nox.bind fun d τ2 => match d with
      | .int n => if 0 ≤ n ∧ n < 2 ^ 63 then .ok (n != 0) τ2 else .no
      | _ => .no
    else .no
  | _ => .no
end
end Np
set_option Elab.async false
set_option linter.all false
set_option maxRecDepth 100000
set_option maxHeartbeats 4000000
namespace Np
open PySem PySem.Spec PyProof.Rows L2
open Classical in
noncomputable def mns (G : GH) (B : Addr → Prop) : GH := ⟨fun p => if B p then none else G p, G.ads⟩
theorem mns_out {G : GH} {B : Addr → Prop} {p : Addr} (h : ¬ B p) : (mns G B).hp p = G.hp p := if_neg h
theorem mns_in {G : GH} {B : Addr → Prop} {p : Addr} (h : B p) : (mns G B).hp p = none := if_pos h
theorem mns_same {G G' : GH} {B : Addr → Prop} (s : GS G G') : GS (mns G B) (mns G' B) := ⟨fun p o h => by
  by_cases z : B p
  · rw [mns_in z] at h; cases h
  · rw [mns_out z] at h ⊢; exact s p o h, s.a⟩
abbrev OldB (H0 : Hp) (B : Addr → Prop) : Prop := ∀ p, B p → H0 p ≠ none
def AvF (W : Wp) (H0 : Hp) (G : GH) (vs : List (Str × V)) (fs : List (Str × DD)) : Prop := ∀ B, OldB H0 B → RpF W.K W.cm (mns G B) vs fs
def PsIS (W : Wp) (E : XK) (tp0 : Option Addr) (G0 : GH) (H0 : Hp) (x : Addr) (D : Ends) : R DD → Prop
  | .ok d τ => ∀ tp' G' H' σ', Ext tp0 G0 H0 G' H' → SB W G' H' → TapeO W G' H' tp' τ → (tp' = tp0 ∨ tp0 = none) → Rp W.K W.cm G' (.ref x) d → (∀ B, OldB H0 B → Rp W.K W.cm (mns G' B) (.ref x) d) → D.nx σ' H'
  | .ex e τ => ∀ d tp' G' H', Ext tp0 G0 H0 G' H' → SB W G' H' → TapeO W G' H' tp' τ → (tp' = tp0 ∨ tp0 = none) → ExR W G' H' e d → E (.ref (W.cm e.cls)) d H'
  | .no => False
def dISetV (f : Str) (e : DE) (r : DI') : DI' := fun ρ τ fs => (e ρ τ).bind fun d τ1 => if flatD d = true ∧ fs.length < 1000 then r ρ τ1 (putD f d fs) else .no
def dISetL (f : Str) (e : PEnv → TS' → R OC) (r : DI') : DI' := fun ρ τ fs => (e ρ τ).bind fun c τ1 => match c with
  | .lst ys => if ys.all flatD = true ∧ fs.length < 1000 then r ρ τ1 (putD f (.lst ys) fs) else .no
  | _ => .no
section
variable {W : Wp} {E : XK} {cls f : Str} {x dx : Addr} {tp0 tp : Option Addr} {G0 G : GH} {H0 H : Hp} {σ : L2.St} {ρ : PEnv} {τ : TS'} {vs : List (Str × V)} {fs : List (Str × DD)} {te : TE} {δe : DE} {t : L2.TS} {δ : DI'}
theorem AvF.done (I : EnvI W cls x dx tp0 G0 H0 tp G H σ ρ τ vs fs) (av : AvF W H0 G vs fs) {D : Ends} (P : PsIS W E tp0 G0 H0 x D (dIEnd cls ρ τ fs)) : D.nx σ H := by
  have sg : GS G (G.upd x (.ins (W.cm cls) dx vs)) := GS.new I.g
  refine P tp (G.upd x (.ins (W.cm cls) dx vs)) H σ (I.e.e.frzN I.h0 I.g) (I.e.v.g.frz I.at' rfl) (I.e.v.t.frz1 I.g I.nt) (I.e.t.imp id fun z => z.1) (.obj upd_same (I.r.mono sg)) (fun B hB => ?_)
  · have nb : ¬ B x := fun z => hB x z I.h0
    exact .obj (by rw [mns_out nb]; exact upd_same) ((av B hB).mono (mns_same sg))
end
def IPostS (W : Wp) (tp : Option Addr) (G : GH) (H : Hp) (x : Addr) (Q : VK) (E : XK) : R DD → Prop
  | .ok d τ' => ∀ G' H', Ext tp G H G' H' → SB W G' H' → TapeO W G' H' tp τ' → Rp W.K W.cm G' (.ref x) d → (∀ B, OldB H B → Rp W.K W.cm (mns G' B) (.ref x) d) → Q .non H'
  | .ex e τ' => ∀ d G' H', Ext tp G H G' H' → SB W G' H' → TapeO W G' H' tp τ' → ExR W G' H' e d → E (.ref (W.cm e.cls)) d H'
  | .no => False
def spIS (W : Wp) (k : Nat) (cls : Str) (F : FnI) : Sp := fun vs H1 Q E => vs.length = k ∧ ∃ x dx H rest tp G as τ, vs = .ref x :: rest ∧ H x = none ∧ H dx = none ∧ dx ≠ x ∧ H1 = upd (upd H dx (.own x)) x (.ins (W.cm cls) dx []) ∧
  SB W G H ∧ Paired (ArgR W tp G) rest as ∧ TapeO W G H tp τ ∧ IPostS W tp G H x Q E (F x as τ)
theorem spI_S {W : Wp} {k : Nat} {cls : Str} {F : FnI} {vs : List V} {H : Hp} {Q : VK} {E : XK} (h : spI W k cls F vs H Q E) : spIS W k cls F vs H Q E := by
  obtain ⟨l, x, dx, H0, rest, tp, G, as, τ, h1, h2, h3, h4, h5, h6, h7, h8, P⟩ := h
  refine ⟨l, x, dx, H0, rest, tp, G, as, τ, h1, h2, h3, h4, h5, h6, h7, h8, ?_⟩
  revert P
  cases F x as τ with
  | ok d τ' => exact fun P G' H' e s t r _ => P G' H' e s t r
  | ex y τ' => exact fun P => P
  | no => exact fun P => P
theorem MkC.weak {P : Program} {w : World} {K : PySem.W.Frag} {mg : Str → Option Value} {base : Heap} {CX : CXT} {k : Nat} {C : Addr} {ps : List Str} {W : Wp} {m : Nat} {cls : Str} {F : FnI} {n : Nat} {ks : List Str} {gV : List V → List V → List V}
    (h : MkC P w K mg base CX k C ps (spIS W m cls F) n ks gV) : MkC P w K mg base CX k C ps (spI W m cls F) n ks gV := by
  obtain ⟨f, fd, M, G, b⟩ := h
  exact ⟨f, fd, M, ⟨fun vs H Q E q => G.len vs H Q E (spI_S q), fun A outer s H args us vs Q E g r e bt v q => G.run A outer s H args us vs Q E g r e bt v (spI_S q)⟩, b⟩
noncomputable def dMkB (i k n m : Nat) (F : FnI) (g : List PV → List PV → List PV) (a b : DPs) : DE := fun ρ τ => match ρ[i]? with
  | some (some (.ow c)) => match dMkN' k n m F g a b (bor i c ρ) none with
    | .ok d _ => .ok d τ
    | _ => .no
  | _ => .no
end Np
set_option Elab.async false
set_option linter.all false
set_option maxRecDepth 100000
set_option maxHeartbeats 4000000
namespace Np
open PySem PySem.Spec PyProof.Rows L2
section
variable {W : Wp} {Wx : L2.St → XK} {te : TE} {δe : DE}
def popD (xs : List DD) (n : Int) : Option (Nat × DD) := if -(2 ^ 63) ≤ n ∧ n < 2 ^ 63 then (seqIndex? n xs.length).bind fun k => (xs[k]?).map fun y => (k, y) else none
def dPopA (i j : Nat) (e : DE) : DS := fun ρ τ => match ρ[i]? with
  | some (some (.ow (.lst xs))) => stE (e ρ τ) ρ fun d τ1 => match d with
    | .int n => match popD xs n with
      | some (k, y) => .ok (.nx ((ρ.set i (some (.ow (.lst (xs.eraseIdx k))))).set j (some (.fr y)))) τ1
      | none => .no
    | _ => .no
  | _ => .no
abbrev gWords := m0 fun z => if z.length + 2 ≤ sizeLine then some (.lst ((Txt.words z).map DD.str)) else none
end
end Np
set_option Elab.async false
set_option linter.all false
set_option maxRecDepth 100000
set_option maxHeartbeats 4000000
namespace Np
open PySem PySem.Spec PyProof.Rows L2
section
variable {α β : Type} {ρ : PEnv} {τ : TS'} {a b c : DE} {d x y : DD} {g g' : DD → DD → Option DD} {i j : Nat} {δ δ' : DS} {r : DA}
@[simp] theorem ev_sizeLine : sizeLine = 16777216 := sizeLine_eq
@[simp] theorem ev_C : dC d ρ τ = .ok d τ := id rfl
def eSlot : Option (Option PV) → TS' → R DD
  | some (some (.fr d)), τ => .ok d τ
  | _, _ => .no
@[simp] theorem eSlot_fr : eSlot (some (some (.fr d))) τ = .ok d τ := id rfl
@[simp] theorem ev_V : dV i ρ τ = eSlot ρ[i]? τ := by
  unfold dV eSlot
  generalize ρ[i]? = o
  rcases o with _ | _ | p
  · rfl
  · rfl
  · cases p <;> rfl
def eOp1 (r : R DD) (g : DD → DD → Option DD) (b : DE) (ρ : PEnv) : R DD := r.bind fun x τ1 => (b ρ τ1).bind fun y τ2 => R.of τ2 (g x y)
def eOp2 (r : R DD) (g : DD → DD → Option DD) (x : DD) : R DD := r.bind fun y τ2 => R.of τ2 (g x y)
@[simp] theorem ev_Op : dOp g a b ρ τ = eOp1 (a ρ τ) g b ρ := id rfl
@[simp] theorem eOp1_ok : eOp1 (.ok x τ) g b ρ = eOp2 (b ρ τ) g x := id rfl
@[simp] theorem eOp2_ok : eOp2 (.ok y τ) g x = R.of τ (g x y) := id rfl
def eUn (r : R α) (g : α → Option β) : R β := r.bind fun x τ1 => R.of τ1 (g x)
@[simp] theorem ev_Un {g : DD → Option DD} : dUn g a ρ τ = eUn (a ρ τ) g := id rfl
@[simp] theorem eUn_ok {x : α} {g : α → Option β} : eUn (.ok x τ) g = R.of τ (g x) := id rfl
@[simp] theorem ev_Nil : dNil ρ τ = .ok [] τ := id rfl
def eCons1 (r : R α) (f : PEnv → TS' → R (List α)) (ρ : PEnv) : R (List α) := r.bind fun x τ1 => (f ρ τ1).bind fun xs τ2 => .ok (x :: xs) τ2
def eCons2 (r : R (List α)) (x : α) : R (List α) := r.bind fun xs τ2 => .ok (x :: xs) τ2
@[simp] theorem ev_Cons : dCons a r ρ τ = eCons1 (a ρ τ) r ρ := id rfl
@[simp] theorem eCons1_ok {x : α} {f : PEnv → TS' → R (List α)} : eCons1 (.ok x τ) f ρ = eCons2 (f ρ τ) x := id rfl
@[simp] theorem eCons2_ok {x : α} {xs : List α} : eCons2 (.ok xs τ) x = .ok (x :: xs) τ := id rfl
@[simp] theorem ev_Call {g : List DD → Option DD} : dCall g r ρ τ = eUn (r ρ τ) g := id rfl
def eSeqD (r : R (List DD)) (f : List DD → DD) : R DD := r.bind fun x τ1 => if x.length ≤ sizeLine then .ok (f x) τ1 else .no
@[simp] theorem ev_Lst : dLst r ρ τ = eSeqD (r ρ τ) .lst := id rfl
@[simp] theorem ev_Tup : dTup r ρ τ = eSeqD (r ρ τ) .tup := id rfl
@[simp] theorem eSeqD_ok {xs : List DD} {f : List DD → DD} : eSeqD (.ok xs τ) f = if xs.length ≤ 16777216 then .ok (f xs) τ else .no := by
  show (if xs.length ≤ sizeLine then _ else _) = _
  rw [sizeLine_eq]
def eTest (r : R DD) : R Bool := r.bind fun x τ1 => match x with
  | .bl b => .ok b τ1
  | _ => .no
@[simp] theorem ev_Test : dTest a ρ τ = eTest (a ρ τ) := id rfl
@[simp] theorem eTest_ok {b : Bool} : eTest (.ok (.bl b) τ) = .ok b τ := id rfl
@[simp] theorem ev_Tru : dTru a ρ τ = eUn (a ρ τ) tru := id rfl
variable {A B : DT}
def eAnd (r : R Bool) (b : DT) (ρ : PEnv) : R Bool := r.bind fun x τ1 => if x = true then b ρ τ1 else .ok false τ1
def eOr (r : R Bool) (b : DT) (ρ : PEnv) : R Bool := r.bind fun x τ1 => if x = true then .ok true τ1 else b ρ τ1
def eNot (r : R Bool) : R Bool := r.bind fun x τ1 => .ok (!x) τ1
@[simp] theorem ev_And : dAnd A B ρ τ = eAnd (A ρ τ) B ρ := id rfl
@[simp] theorem ev_Or : dOr A B ρ τ = eOr (A ρ τ) B ρ := id rfl
@[simp] theorem ev_Not : dNot A ρ τ = eNot (A ρ τ) := id rfl
@[simp] theorem eAnd_t : eAnd (.ok true τ) B ρ = B ρ τ := id rfl
@[simp] theorem eAnd_f : eAnd (.ok false τ) B ρ = .ok false τ := id rfl
@[simp] theorem eOr_t : eOr (.ok true τ) B ρ = .ok true τ := id rfl
@[simp] theorem eOr_f : eOr (.ok false τ) B ρ = B ρ τ := id rfl
@[simp] theorem eNot_ok {b : Bool} : eNot (.ok b τ) = .ok (!b) τ := id rfl
def eIf (r : R Bool) (b c : DE) (ρ : PEnv) : R DD := r.bind fun x τ1 => if x = true then b ρ τ1 else c ρ τ1
@[simp] theorem ev_If : dIf A b c ρ τ = eIf (A ρ τ) b c ρ := id rfl
@[simp] theorem eIf_t : eIf (.ok true τ) b c ρ = b ρ τ := id rfl
@[simp] theorem eIf_f : eIf (.ok false τ) b c ρ = c ρ τ := id rfl
def eAndV (r : R DD) (b : DE) (ρ : PEnv) : R DD := r.bind fun x τ1 => match x with
  | .bl true => b ρ τ1
  | .bl false => .ok (.bl false) τ1
  | _ => .no
def eOrV (r : R DD) (b : DE) (ρ : PEnv) : R DD := r.bind fun x τ1 => match x with
  | .bl true => .ok (.bl true) τ1
  | .bl false => b ρ τ1
  | _ => .no
def eNotV (r : R DD) : R DD := r.bind fun x τ1 => match x with
  | .bl b => .ok (.bl (!b)) τ1
  | _ => .no
@[simp] theorem ev_AndV : dAndV a b ρ τ = eAndV (a ρ τ) b ρ := id rfl
@[simp] theorem ev_OrV : dOrV a b ρ τ = eOrV (a ρ τ) b ρ := id rfl
@[simp] theorem ev_NotV : dNotV a ρ τ = eNotV (a ρ τ) := id rfl
@[simp] theorem eAndV_t : eAndV (.ok (.bl true) τ) b ρ = b ρ τ := id rfl
@[simp] theorem eAndV_f : eAndV (.ok (.bl false) τ) b ρ = .ok (.bl false) τ := id rfl
@[simp] theorem eOrV_t : eOrV (.ok (.bl true) τ) b ρ = .ok (.bl true) τ := id rfl
@[simp] theorem eOrV_f : eOrV (.ok (.bl false) τ) b ρ = b ρ τ := id rfl
@[simp] theorem eNotV_ok {k : Bool} : eNotV (.ok (.bl k) τ) = .ok (.bl (!k)) τ := id rfl
def eCh1 (r : R DD) (g g' : DD → DD → Option DD) (b c : DE) (ρ : PEnv) : R DD := r.bind fun x τ1 => (b ρ τ1).bind fun y τ2 => (R.of τ2 (g x y)).bind fun z τ3 => match z with
  | .bl true => (c ρ τ3).bind fun w τ4 => R.of τ4 (g' y w)
  | .bl false => .ok (.bl false) τ3
  | _ => .no
def eCh2 (r : R DD) (g g' : DD → DD → Option DD) (x : DD) (c : DE) (ρ : PEnv) : R DD := r.bind fun y τ2 => (R.of τ2 (g x y)).bind fun z τ3 => match z with
  | .bl true => (c ρ τ3).bind fun w τ4 => R.of τ4 (g' y w)
  | .bl false => .ok (.bl false) τ3
  | _ => .no
def eCh3 (z : Option DD) (g' : DD → DD → Option DD) (y : DD) (c : DE) (ρ : PEnv) (τ : TS') : R DD := (R.of τ z).bind fun z τ3 => match z with
  | .bl true => (c ρ τ3).bind fun w τ4 => R.of τ4 (g' y w)
  | .bl false => .ok (.bl false) τ3
  | _ => .no
@[simp] theorem ev_Chain : dChain g g' a b c ρ τ = eCh1 (a ρ τ) g g' b c ρ := id rfl
@[simp] theorem eCh1_ok : eCh1 (.ok x τ) g g' b c ρ = eCh2 (b ρ τ) g g' x c ρ := id rfl
@[simp] theorem eCh2_ok : eCh2 (.ok y τ) g g' x c ρ = eCh3 (g x y) g' y c ρ τ := id rfl
@[simp] theorem eCh3_t : eCh3 (some (.bl true)) g' y c ρ τ = eOp2 (c ρ τ) g' y := id rfl
@[simp] theorem eCh3_f : eCh3 (some (.bl false)) g' y c ρ τ = .ok (.bl false) τ := id rfl
@[simp] theorem oInt_ii {f : Int → Int → Option DD} {m n : Int} : oInt f (.int m) (.int n) = f m n := id rfl
@[simp] theorem oStr_ss {f : Str → Str → Option DD} {m n : Str} : oStr f (.str m) (.str n) = f m n := id rfl
@[simp] theorem gIxL_eq {ds : List DD} {n : Int} : gIxL (.lst ds) (.int n) = atI ds n := id rfl
@[simp] theorem gIxT_eq {ds : List DD} {n : Int} : gIxT (.tup ds) (.int n) = atI ds n := id rfl
@[simp] theorem gIxS_eq {z : Str} {n : Int} : gIxS (.str z) (.int n) = if z.length ≤ sizeLine then (atI z.cps.toList n).map fun c => .str ⟨#[c]⟩ else none := id rfl
@[simp] theorem gCat_eq {xs ys : List DD} : gCat (.lst xs) (.lst ys) = if xs.length + ys.length ≤ sizeLine then some (.lst (xs ++ ys)) else none := id rfl
@[simp] theorem gCatT_eq {xs ys : List DD} : gCatT (.tup xs) (.tup ys) = if xs.length + ys.length ≤ sizeLine then some (.tup (xs ++ ys)) else none := id rfl
@[simp] theorem gRep_eq {xs : List DD} {n : Int} : gRep (.lst xs) (.int n) = if -(2 ^ 63) ≤ n ∧ n < 2 ^ 63 ∧ xs.length * n.toNat ≤ sizeLine then some (.lst (List.replicate n.toNat xs).flatten) else none := id rfl
@[simp] theorem gMulS_eq {z : Str} {n : Int} : gMulS (.str z) (.int n) = if MulOk z n then some (.str (Txt.mul z n)) else none := id rfl
@[simp] theorem gEq_ii {k : Bool} {m n : Int} : gEq k (.int m) (.int n) = some (.bl (if k then !decide (m = n) else decide (m = n))) := id rfl
@[simp] theorem gEq_ss {k : Bool} {m n : Str} : gEq k (.str m) (.str n) = some (.bl (if k then !decide (m = n) else decide (m = n))) := id rfl
@[simp] theorem gEq_bb {k m n : Bool} : gEq k (.bl m) (.bl n) = some (.bl (if k then !decide (m = n) else decide (m = n))) := id rfl
@[simp] theorem gIsN_n {k : Bool} : gIsN k .non .non = some (.bl (!k)) := id rfl
@[simp] theorem gIsN_i {k : Bool} {m : Int} : gIsN k (.int m) .non = some (.bl k) := id rfl
@[simp] theorem gIsN_s {k : Bool} {m : Str} : gIsN k (.str m) .non = some (.bl k) := id rfl
@[simp] theorem gIsN_b {k m : Bool} : gIsN k (.bl m) .non = some (.bl k) := id rfl
@[simp] theorem gIsN_l {k : Bool} {m : List DD} : gIsN k (.lst m) .non = some (.bl k) := id rfl
@[simp] theorem gIsN_t {k : Bool} {m : List DD} : gIsN k (.tup m) .non = some (.bl k) := id rfl
@[simp] theorem gNeg_eq {n : Int} : gNeg (.int n) = some (.int (-n)) := id rfl
@[simp] theorem c1_one {f : DD → Option DD} : c1 f [d] = f d := id rfl
@[simp] theorem c2_two {f : DD → DD → Option DD} : c2 f [x, y] = f x y := id rfl
@[simp] theorem gLenS_eq {z : Str} : gLenS (.str z) = if z.length ≤ sizeLine then some (.int z.length) else none := id rfl
@[simp] theorem gLenL_l {ds : List DD} : gLenL (.lst ds) = some (.int ds.length) := id rfl
@[simp] theorem gLenL_t {ds : List DD} : gLenL (.tup ds) = some (.int ds.length) := id rfl
@[simp] theorem gAbs_eq {n : Int} : gAbs (.int n) = some (.int (if n < 0 then -n else n)) := id rfl
@[simp] theorem gStrI_eq {n : Int} : gStrI (.int n) = if n.natAbs.log2 < 1920 then some (.str (toString n)) else none := id rfl
@[simp] theorem gIntS_eq {z : Str} : gIntS (.str z) = if z.length ≤ 640 then (PySem.intText? z).map .int else none := id rfl
@[simp] theorem gInt1_i {n : Int} : gInt1 (.int n) = some (.int n) := id rfl
@[simp] theorem gInt1_b {n : Bool} : gInt1 (.bl n) = some (.int (if n then 1 else 0)) := id rfl
@[simp] theorem gSum_eq {ds : List DD} : gSum (.lst ds) = (ints? ds).map fun ns => .int ns.sum := id rfl
@[simp] theorem gAllL_eq {ds : List DD} : gAllL (.lst ds) = (bls? ds).map fun bs => .bl (bs.all id) := id rfl
@[simp] theorem gAnyL_eq {ds : List DD} : gAnyL (.lst ds) = (bls? ds).map fun bs => .bl (bs.any id) := id rfl
@[simp] theorem gList_l {ds : List DD} : gList (.lst ds) = some (.lst ds) := id rfl
@[simp] theorem gList_t {ds : List DD} : gList (.tup ds) = some (.lst ds) := id rfl
@[simp] theorem gList_tux {ds : List DD} : gList (.tux ds) = some (.lst ds) := id rfl
@[simp] theorem gLenL_tux {ds : List DD} : gLenL (.tux ds) = some (.int ds.length) := id rfl
@[simp] theorem gTuple_l {ds : List DD} : gTuple (.lst ds) = some (.tup ds) := id rfl
@[simp] theorem gTuple_t {ds : List DD} : gTuple (.tup ds) = some (.tup ds) := id rfl
@[simp] theorem gListS_eq {z : Str} : gListS (.str z) = if z.length ≤ sizeLine then some (.lst (signs z)) else none := id rfl
@[simp] theorem gIsi_i {T : String} {n : Int} : gIsi T (.int n) = some (.bl (isT T "int")) := id rfl
@[simp] theorem gIsi_b {T : String} {n : Bool} : gIsi T (.bl n) = some (.bl (isT T "bool")) := id rfl
@[simp] theorem gIsi_s {T : String} {n : Str} : gIsi T (.str n) = some (.bl (isT T "str")) := id rfl
@[simp] theorem gIsi_n {T : String} : gIsi T .non = some (.bl (isT T "NoneType")) := id rfl
@[simp] theorem gIsi_l {T : String} {n : List DD} : gIsi T (.lst n) = some (.bl (isT T "list")) := id rfl
@[simp] theorem gIsi_t {T : String} {n : List DD} : gIsi T (.tup n) = some (.bl (isT T "tuple")) := id rfl
@[simp] theorem gIsi2_i {T U : String} {n : Int} : gIsi2 T U (.int n) = some (.bl (isT T "int" || isT U "int")) := id rfl
@[simp] theorem gIsi2_b {T U : String} {n : Bool} : gIsi2 T U (.bl n) = some (.bl (isT T "bool" || isT U "bool")) := id rfl
@[simp] theorem gIsi2_s {T U : String} {n : Str} : gIsi2 T U (.str n) = some (.bl (isT T "str" || isT U "str")) := id rfl
@[simp] theorem gIsi2_n {T U : String} : gIsi2 T U .non = some (.bl (isT T "NoneType" || isT U "NoneType")) := id rfl
@[simp] theorem gIsi2_l {T U : String} {n : List DD} : gIsi2 T U (.lst n) = some (.bl (isT T "list" || isT U "list")) := id rfl
@[simp] theorem gIsi2_t {T U : String} {n : List DD} : gIsi2 T U (.tup n) = some (.bl (isT T "tuple" || isT U "tuple")) := id rfl
@[simp] theorem tru_n : tru .non = some false := id rfl
@[simp] theorem tru_b {b : Bool} : tru (.bl b) = some b := id rfl
@[simp] theorem tru_i {b : Int} : tru (.int b) = some (b != 0) := id rfl
@[simp] theorem tru_l {b : List DD} : tru (.lst b) = some (!b.isEmpty) := id rfl
@[simp] theorem tru_t {b : List DD} : tru (.tup b) = some (!b.isEmpty) := id rfl
variable {l h : DO}
@[simp] theorem ev_NoP : dNoP ρ τ = .ok none τ := id rfl
def ePart (r : R DD) : R (Option Int) := r.bind fun x τ1 => match x with
  | .int i => .ok (some i) τ1
  | _ => .no
@[simp] theorem ev_Part : dPart a ρ τ = ePart (a ρ τ) := id rfl
@[simp] theorem ePart_ok {n : Int} : ePart (.ok (.int n) τ) = .ok (some n) τ := id rfl
variable {G : DD → Option Int → Option Int → Option DD}
def eSl1 (r : R DD) (g : DD → Option Int → Option Int → Option DD) (l h : DO) (ρ : PEnv) : R DD := r.bind fun x τ1 => (l ρ τ1).bind fun lo τ2 => (h ρ τ2).bind fun hi τ3 => R.of τ3 (g x lo hi)
def eSl2 (r : R (Option Int)) (g : DD → Option Int → Option Int → Option DD) (x : DD) (h : DO) (ρ : PEnv) : R DD := r.bind fun lo τ2 => (h ρ τ2).bind fun hi τ3 => R.of τ3 (g x lo hi)
def eSl3 (r : R (Option Int)) (g : DD → Option Int → Option Int → Option DD) (x : DD) (lo : Option Int) : R DD := r.bind fun hi τ3 => R.of τ3 (g x lo hi)
@[simp] theorem ev_Sl : dSl G a l h ρ τ = eSl1 (a ρ τ) G l h ρ := id rfl
@[simp] theorem eSl1_ok : eSl1 (.ok x τ) G l h ρ = eSl2 (l ρ τ) G x h ρ := id rfl
@[simp] theorem eSl2_ok {lo : Option Int} : eSl2 (.ok lo τ) G x h ρ = eSl3 (h ρ τ) G x lo := id rfl
@[simp] theorem eSl3_ok {lo hi : Option Int} : eSl3 (.ok hi τ) G x lo = R.of τ (G x lo hi) := id rfl
@[simp] theorem gSlL_eq {ds : List DD} {lo hi : Option Int} : gSlL (.lst ds) lo hi = some (.lst (cutL ds lo hi)) := id rfl
@[simp] theorem gSlS_eq {z : Str} {lo hi : Option Int} : gSlS (.str z) lo hi = if z.length ≤ sizeLine then some (.str (cutS z lo hi)) else none := id rfl
@[simp] theorem gRevL_eq {ds : List DD} : gRevL (.lst ds) = some (.lst ds.reverse) := id rfl
@[simp] theorem gRevS_eq {z : Str} : gRevS (.str z) = if z.length ≤ sizeLine then some (.str (revS z)) else none := id rfl
variable {M : Str → List DD → Option DD}
def eM0 (r : R DD) (g : Str → List DD → Option DD) : R DD := r.bind fun x τ1 => match x with
  | .str z => R.of τ1 (g z [])
  | _ => .no
def eM1 (r : R DD) (g : Str → List DD → Option DD) (a : DE) (ρ : PEnv) : R DD := r.bind fun x τ1 => match x with
  | .str z => (a ρ τ1).bind fun y τ2 => R.of τ2 (g z [y])
  | _ => .no
def eM2 (r : R DD) (g : Str → List DD → Option DD) (z : Str) : R DD := r.bind fun y τ2 => R.of τ2 (g z [y])
def eMs (r : R DD) (g : Str → List DD → Option DD) (a : DA) (ρ : PEnv) : R DD := r.bind fun x τ1 => match x with
  | .str z => (a ρ τ1).bind fun y τ2 => R.of τ2 (g z y)
  | _ => .no
def eMs2 (r : R (List DD)) (g : Str → List DD → Option DD) (z : Str) : R DD := r.bind fun y τ2 => R.of τ2 (g z y)
@[simp] theorem ev_M0 : dM0 M a ρ τ = eM0 (a ρ τ) M := id rfl
@[simp] theorem ev_M1 : dM1 M a b ρ τ = eM1 (a ρ τ) M b ρ := id rfl
@[simp] theorem ev_Ms : dMs M a r ρ τ = eMs (a ρ τ) M r ρ := id rfl
@[simp] theorem eM0_ok {z : Str} : eM0 (.ok (.str z) τ) M = R.of τ (M z []) := id rfl
@[simp] theorem eM1_ok {z : Str} : eM1 (.ok (.str z) τ) M a ρ = eM2 (a ρ τ) M z := id rfl
@[simp] theorem eM2_ok {z : Str} : eM2 (.ok x τ) M z = R.of τ (M z [x]) := id rfl
@[simp] theorem eMs_ok {z : Str} : eMs (.ok (.str z) τ) M r ρ = eMs2 (r ρ τ) M z := id rfl
@[simp] theorem eMs2_ok {z : Str} {xs : List DD} : eMs2 (.ok xs τ) M z = R.of τ (M z xs) := id rfl
@[simp] theorem m0_ev {f : Str → Option DD} {z : Str} : m0 f z [] = f z := id rfl
@[simp] theorem m1S_ev {f : Str → Str → Option DD} {z w : Str} : m1S f z [.str w] = f z w := id rfl
@[simp] theorem m1I_ev {f : Str → Int → Option DD} {z : Str} {w : Int} : m1I f z [.int w] = f z w := id rfl
@[simp] theorem gFmt_s {z : Str} : gFmt (.str z) = if z.length ≤ sizeLine then some (.str z) else none := id rfl
@[simp] theorem gFmt_i {n : Int} : gFmt (.int n) = if n.natAbs.log2 < 1920 then some (.str (toString n)) else none := id rfl
def eJs (r : R DD) (acc : Str) (ds : List DE) (ρ : PEnv) : R DD := r.bind fun x τ1 => match x with
  | .str y => if (acc ++ y).length ≤ sizeLine then dJs ds (acc ++ y) ρ τ1 else .no
  | _ => .no
variable {ds : List DE} {acc : Str}
@[simp] theorem ev_Js0 : dJs [] acc ρ τ = .ok (.str acc) τ := id rfl
@[simp] theorem ev_Js : dJs (a :: ds) acc ρ τ = eJs (a ρ τ) acc ds ρ := id rfl
def lst? : DD → Option (List DD)
  | .lst ds => some ds
  | _ => none
def tup? : DD → Option (List DD)
  | .tup ds => some ds
  | .tux ds => some ds
  | _ => none
def sgn? : DD → Option (List DD)
  | .str z => some (signs z)
  | _ => none
@[simp] theorem lst?_eq {ds : List DD} : lst? (.lst ds) = some ds := id rfl
@[simp] theorem tup?_eq {ds : List DD} : tup? (.tup ds) = some ds := id rfl
@[simp] theorem tup?_tux {ds : List DD} : tup? (.tux ds) = some ds := id rfl
@[simp] theorem sgn?_eq {z : Str} : sgn? (.str z) = some (signs z) := id rfl
@[simp] theorem ev_IList : dIList a ρ τ = eUn (a ρ τ) lst? := by
  unfold dIList eUn
  congr 1
  funext x τ1
  cases x <;> rfl
@[simp] theorem ev_ITup : dITup a ρ τ = eUn (a ρ τ) tup? := by
  unfold dITup eUn
  congr 1
  funext x τ1
  cases x <;> rfl
@[simp] theorem ev_IStr : dIStr a ρ τ = eUn (a ρ τ) sgn? := by
  unfold dIStr eUn
  congr 1
  funext x τ1
  cases x <;> rfl
def rg1 : List DD → Option (List DD)
  | [.int j] => if -(2 ^ 62) ≤ j ∧ j < 2 ^ 62 then some (rangeD 0 j.toNat) else none
  | _ => none
def rg2 : List DD → Option (List DD)
  | [.int i, .int j] => if -(2 ^ 62) ≤ i ∧ i < 2 ^ 62 ∧ -(2 ^ 62) ≤ j ∧ j < 2 ^ 62 then some (rangeD i (j - i).toNat) else none
  | _ => none
@[simp] theorem rg1_eq {n : Int} : rg1 [.int n] = if -(2 ^ 62) ≤ n ∧ n < 2 ^ 62 then some (rangeD 0 n.toNat) else none := id rfl
@[simp] theorem rg2_eq {m n : Int} : rg2 [.int m, .int n] = if -(2 ^ 62) ≤ m ∧ m < 2 ^ 62 ∧ -(2 ^ 62) ≤ n ∧ n < 2 ^ 62 then some (rangeD m (n - m).toNat) else none := id rfl
@[simp] theorem ev_IR1 : dIR1 r ρ τ = eUn (r ρ τ) rg1 := by
  unfold dIR1 eUn
  congr 1
  funext x τ1
  unfold rg1
  rcases x with _ | ⟨d, _ | ⟨e, x⟩⟩
  · rfl
  · cases d <;> first | rfl | (dsimp only [R.of]; split <;> rfl)
  · cases d <;> rfl
@[simp] theorem ev_IR2 : dIR2 r ρ τ = eUn (r ρ τ) rg2 := by
  unfold dIR2 eUn
  congr 1
  funext x τ1
  unfold rg2
  rcases x with _ | ⟨d, _ | ⟨e, _ | ⟨f, x⟩⟩⟩
  · rfl
  · cases d <;> rfl
  · cases d <;> cases e <;> first | rfl | (dsimp only [R.of]; split <;> rfl)
  · cases d <;> cases e <;> rfl
def en? : List DD → Option (List DD)
  | [.lst ds] => some (enumD ds)
  | _ => none
def zp? : List DD → Option (List DD)
  | [.lst ds, .lst es] => some (zipD ds es)
  | _ => none
def rv? : List DD → Option (List DD)
  | [.lst ds] => some ds.reverse
  | _ => none
@[simp] theorem en?_eq {ds : List DD} : en? [.lst ds] = some (enumD ds) := id rfl
@[simp] theorem zp?_eq {ds es : List DD} : zp? [.lst ds, .lst es] = some (zipD ds es) := id rfl
@[simp] theorem rv?_eq {ds : List DD} : rv? [.lst ds] = some ds.reverse := id rfl
@[simp] theorem ev_IEnum : dIEnum r ρ τ = eUn (r ρ τ) en? := by
  unfold dIEnum eUn
  congr 1
  funext x τ1
  unfold en?
  rcases x with _ | ⟨d, _ | ⟨e, x⟩⟩
  · rfl
  · cases d <;> first | rfl | (dsimp only [R.of]; split <;> rfl)
  · cases d <;> rfl
@[simp] theorem ev_IZip : dIZip r ρ τ = eUn (r ρ τ) zp? := by
  unfold dIZip eUn
  congr 1
  funext x τ1
  unfold zp?
  rcases x with _ | ⟨d, _ | ⟨e, _ | ⟨f, x⟩⟩⟩
  · rfl
  · cases d <;> rfl
  · cases d <;> cases e <;> first | rfl | (dsimp only [R.of]; split <;> rfl)
  · cases d <;> cases e <;> rfl
@[simp] theorem ev_IRev : dIRev r ρ τ = eUn (r ρ τ) rv? := by
  unfold dIRev eUn
  congr 1
  funext x τ1
  unfold rv?
  rcases x with _ | ⟨d, _ | ⟨e, x⟩⟩
  · rfl
  · cases d <;> first | rfl | (dsimp only [R.of]; split <;> rfl)
  · cases d <;> rfl
variable {I : DI} {t : Tg} {vs : List Nat}
def eLc1 (r : R (List DD)) (t : Tg) (c : DT) (e : DE) (ρ : PEnv) : R (List DD) := r.bind fun ds τ1 => if ds.length ≤ sizeLine then lcL t c e ρ ds τ1 else .no
def eMap (r : R α) (f : α → β) : R β := r.bind fun x τ1 => .ok (f x) τ1
@[simp] theorem eMap_ok {x : α} {f : α → β} : eMap (.ok x τ) f = .ok (f x) τ := id rfl
@[simp] theorem ev_Lc : dLc I t A a vs ρ τ = eMap (eLc1 (I ρ τ) t A a (wipeP ρ vs)) .lst := by
  unfold dLc eMap eLc1
  cases I ρ τ with
  | ok ds τ1 => simp only [R.bind_ok]; split <;> rfl
  | ex x τ1 => rfl
  | no => rfl
@[simp] theorem ev_LcF : dLcF I t A a vs ρ τ = eMap (eLc1 (I ρ τ) t A a (wipeP ρ vs)) .lst := by
  unfold dLcF eMap eLc1
  cases I ρ τ with
  | ok ds τ1 => simp only [R.bind_ok]; split <;> rfl
  | ex x τ1 => rfl
  | no => rfl
@[simp] theorem eLc1_ok {ds : List DD} : eLc1 (.ok ds τ) t A a ρ = if ds.length ≤ 16777216 then lcL t A a ρ ds τ else .no := by
  show (if ds.length ≤ sizeLine then _ else _) = _
  rw [sizeLine_eq]
@[simp] theorem wipeP_nil : wipeP ρ [] = ρ := id rfl
@[simp] theorem wipeP_cons : wipeP ρ (i :: vs) = (wipeP ρ vs).set i none := id rfl
@[simp] theorem ev_Yes : dYes ρ τ = .ok true τ := id rfl
@[simp] theorem tgF_nm : tgF (.nm i) d ρ = some (ρ.set i (some (.fr d))) := by rw [tgF]
@[simp] theorem tgF_tp {ts : List Tg} {ds : List DD} : tgF (.tp ts) (.tup ds) ρ = tgFs ts ds ρ := by rw [tgF]
@[simp] theorem tgFs_nil : tgFs [] [] ρ = some ρ := by rw [tgFs]
@[simp] theorem tgFs_cons {ts : List Tg} {ds : List DD} : tgFs (t :: ts) (d :: ds) ρ = (tgF t d ρ).bind (tgFs ts ds) := by
  rw [tgFs]
  cases tgF t d ρ <;> rfl
@[simp] theorem ev_Nx : dNx ρ τ = .ok (.nx ρ) τ := id rfl
@[simp] theorem ev_RetN : dRetN ρ τ = .ok (.rt .non) τ := id rfl
def eSeq (r : R Ct) (b : DS) : R Ct := match r with
  | .ok (.nx ρ1) τ1 => b ρ1 τ1
  | r => r
@[simp] theorem ev_Seq : dSeq δ δ' ρ τ = eSeq (δ ρ τ) δ' := id rfl
@[simp] theorem eSeq_nx : eSeq (.ok (.nx ρ) τ) δ = δ ρ τ := id rfl
@[simp] theorem eSeq_rt : eSeq (.ok (.rt d) τ) δ = .ok (.rt d) τ := id rfl
@[simp] theorem eSeq_bk : eSeq (.ok (.bk ρ) τ) δ = .ok (.bk ρ) τ := id rfl
@[simp] theorem eSeq_ct : eSeq (.ok (.ct ρ) τ) δ = .ok (.ct ρ) τ := id rfl
@[simp] theorem eSeq_xc {x : Ex} : eSeq (.ok (.xc x ρ) τ) δ = .ok (.xc x ρ) τ := id rfl
def eSet (r : R DD) (i : Nat) (ρ : PEnv) : R Ct := stE r ρ fun d τ1 => .ok (.nx (ρ.set i (some (.fr d)))) τ1
@[simp] theorem ev_Set : dSet i a ρ τ = eSet (a ρ τ) i ρ := id rfl
@[simp] theorem eSet_ok : eSet (.ok d τ) i ρ = .ok (.nx (ρ.set i (some (.fr d)))) τ := id rfl
@[simp] theorem eSet_ex {x : Ex} : eSet (.ex x τ) i ρ = .ok (.xc x ρ) τ := id rfl
def eDrop (r : R DD) (ρ : PEnv) : R Ct := stE r ρ fun d τ1 => .ok (.nx ρ) τ1
@[simp] theorem ev_Drop : dDrop a ρ τ = eDrop (a ρ τ) ρ := id rfl
@[simp] theorem eDrop_ok : eDrop (.ok d τ) ρ = .ok (.nx ρ) τ := id rfl
def eRet (r : R DD) (ρ : PEnv) : R Ct := stE r ρ fun d τ1 => .ok (.rt d) τ1
@[simp] theorem ev_Ret : dRet a ρ τ = eRet (a ρ τ) ρ := id rfl
@[simp] theorem eRet_ok : eRet (.ok d τ) ρ = .ok (.rt d) τ := id rfl
@[simp] theorem eRet_ex {x : Ex} : eRet (.ex x τ) ρ = .ok (.xc x ρ) τ := id rfl
def eIfS (r : R Bool) (a b : DS) (ρ : PEnv) : R Ct := stE r ρ fun x τ1 => if x = true then a ρ τ1 else b ρ τ1
@[simp] theorem ev_IfS : dIfS A δ δ' ρ τ = eIfS (A ρ τ) δ δ' ρ := id rfl
@[simp] theorem eIfS_t : eIfS (.ok true τ) δ δ' ρ = δ ρ τ := id rfl
@[simp] theorem eIfS_f : eIfS (.ok false τ) δ δ' ρ = δ' ρ τ := id rfl
def eAsg (o : Option PEnv) (τ : TS') : R Ct := match o with
  | some ρ1 => .ok (.nx ρ1) τ
  | none => .no
def eAsgT (r : R DD) (g : Tg) (ρ : PEnv) : R Ct := stE r ρ fun d τ1 => eAsg (tgF g d ρ) τ1
@[simp] theorem ev_AsgT : dAsgT a t ρ τ = eAsgT (a ρ τ) t ρ := id rfl
@[simp] theorem eAsgT_ok : eAsgT (.ok d τ) t ρ = eAsg (tgF t d ρ) τ := id rfl
@[simp] theorem eAsg_some {ρ1 : PEnv} : eAsg (some ρ1) τ = .ok (.nx ρ1) τ := id rfl
def eAug1 (o : Option (Option PV)) (i : Nat) (g : DD → DD → Option DD) (e : DE) (ρ : PEnv) (τ : TS') : R Ct := match o with
  | some (some (.fr x)) => stE (e ρ τ) ρ fun y τ1 => match g x y with
    | some z => .ok (.nx (ρ.set i (some (.fr z)))) τ1
    | none => .no
  | _ => .no
def eAug2 (r : R DD) (i : Nat) (g : DD → DD → Option DD) (x : DD) (ρ : PEnv) : R Ct := stE r ρ fun y τ1 => match g x y with
    | some z => .ok (.nx (ρ.set i (some (.fr z)))) τ1
    | none => .no
def eAug3 (o : Option DD) (i : Nat) (ρ : PEnv) (τ : TS') : R Ct := match o with
    | some z => .ok (.nx (ρ.set i (some (.fr z)))) τ
    | none => .no
@[simp] theorem ev_Aug : dAug i g a ρ τ = eAug1 ρ[i]? i g a ρ τ := id rfl
@[simp] theorem eAug1_ok : eAug1 (some (some (.fr x))) i g a ρ τ = eAug2 (a ρ τ) i g x ρ := id rfl
@[simp] theorem eAug2_ok : eAug2 (.ok y τ) i g x ρ = eAug3 (g x y) i ρ τ := id rfl
@[simp] theorem eAug3_ok : eAug3 (some d) i ρ τ = .ok (.nx (ρ.set i (some (.fr d)))) τ := id rfl
def ePar (r : R (List DD)) (i j : Nat) (ρ : PEnv) : R Ct := stE r ρ fun ds τ1 => match ds with
  | [d, e] => .ok (.nx ((ρ.set i (some (.fr d))).set j (some (.fr e)))) τ1
  | _ => .no
@[simp] theorem ev_Par : dPar i j r ρ τ = ePar (r ρ τ) i j ρ := id rfl
@[simp] theorem ePar_ok : ePar (.ok [x, y] τ) i j ρ = .ok (.nx ((ρ.set i (some (.fr x))).set j (some (.fr y)))) τ := id rfl
variable {φ ψ : PEnv → TS' → R OC}
def eSetO (r : R OC) (i : Nat) (ρ : PEnv) : R Ct := stE r ρ fun c τ1 => .ok (.nx (ρ.set i (some (.ow c)))) τ1
@[simp] theorem ev_SetO : dSetO i φ ρ τ = eSetO (φ ρ τ) i ρ := id rfl
@[simp] theorem eSetO_ok {c : OC} : eSetO (.ok c τ) i ρ = .ok (.nx (ρ.set i (some (.ow c)))) τ := id rfl
def eLstF (r : R (List DD)) : R OC := r.bind fun x τ1 => if x.length ≤ sizeLine then .ok (.lst x) τ1 else .no
@[simp] theorem ev_LstF : dLstF r ρ τ = eLstF (r ρ τ) := id rfl
@[simp] theorem eLstF_ok {xs : List DD} : eLstF (.ok xs τ) = if xs.length ≤ 16777216 then .ok (.lst xs) τ else .no := by
  show (if xs.length ≤ sizeLine then _ else _) = _
  rw [sizeLine_eq]
def its1 : List DD → Option OC
  | [d] => (items? d).map .lst
  | _ => none
@[simp] theorem its1_l {ds : List DD} : its1 [.lst ds] = some (.lst ds) := id rfl
@[simp] theorem its1_t {ds : List DD} : its1 [.tup ds] = some (.lst ds) := id rfl
@[simp] theorem ev_ListF : dListF r ρ τ = eUn (r ρ τ) its1 := by
  unfold dListF eUn
  congr 1
  funext x τ1
  unfold its1
  rcases x with _ | ⟨d, _ | ⟨e, x⟩⟩
  · rfl
  · dsimp only
    cases items? d <;> rfl
  · rfl
def olst : Option DD → Option OC
  | some (.lst cs) => some (.lst cs)
  | _ => none
def eOpF1 (r : R DD) (g : DD → DD → Option DD) (b : DE) (ρ : PEnv) : R OC := r.bind fun x τ1 => (b ρ τ1).bind fun y τ2 => R.of τ2 (olst (g x y))
def eOpF2 (r : R DD) (g : DD → DD → Option DD) (x : DD) : R OC := r.bind fun y τ2 => R.of τ2 (olst (g x y))
@[simp] theorem olst_eq {ds : List DD} : olst (some (.lst ds)) = some (.lst ds) := id rfl
@[simp] theorem ev_OpF : dOpF g a b ρ τ = eOpF1 (a ρ τ) g b ρ := by
  unfold dOpF eOpF1
  congr 1
  funext x τ1
  congr 1
  funext y τ2
  generalize g x y = o
  rcases o with _ | d
  · rfl
  · cases d <;> rfl
@[simp] theorem eOpF1_ok : eOpF1 (.ok x τ) g b ρ = eOpF2 (b ρ τ) g x := id rfl
@[simp] theorem eOpF2_ok : eOpF2 (.ok y τ) g x = R.of τ (olst (g x y)) := id rfl
def eApp1 (o : Option (Option PV)) (i : Nat) (e : DE) (ρ : PEnv) (τ : TS') : R Ct := match o with
  | some (some (.ow (.lst xs))) => stE (e ρ τ) ρ fun d τ1 => if xs.length < sizeLine then .ok (.nx (ρ.set i (some (.ow (.lst (xs ++ [d])))))) τ1 else .no
  | _ => .no
def eApp2 (r : R DD) (i : Nat) (xs : List DD) (ρ : PEnv) : R Ct := stE r ρ fun d τ1 => if xs.length < sizeLine then .ok (.nx (ρ.set i (some (.ow (.lst (xs ++ [d])))))) τ1 else .no
variable {xs ys : List DD}
@[simp] theorem ev_App : dApp i a ρ τ = eApp1 ρ[i]? i a ρ τ := id rfl
@[simp] theorem eApp1_ok : eApp1 (some (some (.ow (.lst xs)))) i a ρ τ = eApp2 (a ρ τ) i xs ρ := id rfl
@[simp] theorem eApp2_ok : eApp2 (.ok d τ) i xs ρ = if xs.length < 16777216 then .ok (.nx (ρ.set i (some (.ow (.lst (xs ++ [d])))))) τ else .no := by
  show (if xs.length < sizeLine then _ else _) = _
  rw [sizeLine_eq]
def eExt1 (o : Option (Option PV)) (i : Nat) (e : DE) (ρ : PEnv) (τ : TS') : R Ct := match o with
  | some (some (.ow (.lst xs))) => stE (e ρ τ) ρ fun d τ1 => match d with
    | .lst ys => if xs.length + ys.length ≤ sizeLine then .ok (.nx (ρ.set i (some (.ow (.lst (xs ++ ys)))))) τ1 else .no
    | _ => .no
  | _ => .no
def eExt2 (r : R DD) (i : Nat) (xs : List DD) (ρ : PEnv) : R Ct := stE r ρ fun d τ1 => match d with
    | .lst ys => if xs.length + ys.length ≤ sizeLine then .ok (.nx (ρ.set i (some (.ow (.lst (xs ++ ys)))))) τ1 else .no
    | _ => .no
@[simp] theorem ev_Ext : dExt i a ρ τ = eExt1 ρ[i]? i a ρ τ := id rfl
@[simp] theorem eExt1_ok : eExt1 (some (some (.ow (.lst xs)))) i a ρ τ = eExt2 (a ρ τ) i xs ρ := id rfl
@[simp] theorem eExt2_ok : eExt2 (.ok (.lst ys) τ) i xs ρ = if xs.length + ys.length ≤ 16777216 then .ok (.nx (ρ.set i (some (.ow (.lst (xs ++ ys)))))) τ else .no := by
  show (if xs.length + ys.length ≤ sizeLine then _ else _) = _
  rw [sizeLine_eq]
def eRevO (o : Option (Option PV)) (i : Nat) (ρ : PEnv) (τ : TS') : R Ct := match o with
  | some (some (.ow (.lst xs))) => .ok (.nx (ρ.set i (some (.ow (.lst xs.reverse))))) τ
  | _ => .no
@[simp] theorem ev_RevO : dRevO i ρ τ = eRevO ρ[i]? i ρ τ := id rfl
@[simp] theorem eRevO_ok : eRevO (some (some (.ow (.lst xs)))) i ρ τ = .ok (.nx (ρ.set i (some (.ow (.lst xs.reverse))))) τ := id rfl
def ePut1 (r : R DD) (i : Nat) (k : DE) (ρ : PEnv) : R Ct := stE r ρ fun d τ1 => match ρ[i]? with
  | some (some (.ow (.lst xs))) => stE (k ρ τ1) ρ fun n τ2 => match n with
    | .int n => match ixN xs.length n with
      | some j => .ok (.nx (ρ.set i (some (.ow (.lst (xs.set j d)))))) τ2
      | none => .no
    | _ => .no
  | _ => .no
def ePut2 (o : Option (Option PV)) (i : Nat) (k : DE) (d : DD) (ρ : PEnv) (τ : TS') : R Ct := match o with
  | some (some (.ow (.lst xs))) => stE (k ρ τ) ρ fun n τ2 => match n with
    | .int n => match ixN xs.length n with
      | some j => .ok (.nx (ρ.set i (some (.ow (.lst (xs.set j d)))))) τ2
      | none => .no
    | _ => .no
  | _ => .no
def ePut3 (r : R DD) (i : Nat) (d : DD) (xs : List DD) (ρ : PEnv) : R Ct := stE r ρ fun n τ2 => match n with
    | .int n => match ixN xs.length n with
      | some j => .ok (.nx (ρ.set i (some (.ow (.lst (xs.set j d)))))) τ2
      | none => .no
    | _ => .no
def ePut4 (o : Option Nat) (i : Nat) (d : DD) (xs : List DD) (ρ : PEnv) (τ : TS') : R Ct := match o with
      | some j => .ok (.nx (ρ.set i (some (.ow (.lst (xs.set j d)))))) τ
      | none => .no
@[simp] theorem ev_PutL : dPutL i b a ρ τ = ePut1 (a ρ τ) i b ρ := id rfl
@[simp] theorem ePut1_ok : ePut1 (.ok d τ) i b ρ = ePut2 ρ[i]? i b d ρ τ := id rfl
@[simp] theorem ePut2_ok : ePut2 (some (some (.ow (.lst xs)))) i b d ρ τ = ePut3 (b ρ τ) i d xs ρ := id rfl
@[simp] theorem ePut3_ok {n : Int} : ePut3 (.ok (.int n) τ) i d xs ρ = ePut4 (ixN xs.length n) i d xs ρ τ := id rfl
@[simp] theorem ePut4_ok : ePut4 (some j) i d xs ρ τ = .ok (.nx (ρ.set i (some (.ow (.lst (xs.set j d)))))) τ := id rfl
def eFrz (o : Option (Option PV)) (i : Nat) (ρ : PEnv) : PEnv := match o with
  | some (some (.ow c)) => ρ.set i (some (.fr (ocD c)))
  | _ => ρ
@[simp] theorem ev_Frz : dFrz i δ ρ τ = δ (eFrz ρ[i]? i ρ) τ := id rfl
@[simp] theorem eFrz_ow {c : OC} : eFrz (some (some (.ow c))) i ρ = ρ.set i (some (.fr (ocD c))) := id rfl
@[simp] theorem eFrz_fr : eFrz (some (some (.fr d))) i ρ = ρ := id rfl
@[simp] theorem eFrz_no : eFrz (some none) i ρ = ρ := id rfl
@[simp] theorem ocD_l : ocD (.lst xs) = .lst xs := id rfl
def eParO (r : R OC) (j : Nat) (ρ ρ' : PEnv) : R Ct := stE r ρ fun y τ2 => .ok (.nx (ρ'.set j (some (.ow y)))) τ2
def eParF (r : R DD) (j : Nat) (ρ ρ' : PEnv) : R Ct := stE r ρ fun y τ2 => .ok (.nx (ρ'.set j (some (.fr y)))) τ2
def eParOO (r : R OC) (i j : Nat) (b : PEnv → TS' → R OC) (ρ : PEnv) : R Ct := stE r ρ fun x τ1 => eParO (b ρ τ1) j ρ (ρ.set i (some (.ow x)))
def eParOF (r : R OC) (i j : Nat) (b : DE) (ρ : PEnv) : R Ct := stE r ρ fun x τ1 => eParF (b ρ τ1) j ρ (ρ.set i (some (.ow x)))
def eParFO (r : R DD) (i j : Nat) (b : PEnv → TS' → R OC) (ρ : PEnv) : R Ct := stE r ρ fun x τ1 => eParO (b ρ τ1) j ρ (ρ.set i (some (.fr x)))
@[simp] theorem ev_ParOO : dParOO i j φ ψ ρ τ = eParOO (φ ρ τ) i j ψ ρ := id rfl
@[simp] theorem ev_ParOF : dParOF i j φ b ρ τ = eParOF (φ ρ τ) i j b ρ := id rfl
@[simp] theorem ev_ParFO : dParFO i j a ψ ρ τ = eParFO (a ρ τ) i j ψ ρ := id rfl
@[simp] theorem eParOO_ok {c : OC} : eParOO (.ok c τ) i j ψ ρ = eParO (ψ ρ τ) j ρ (ρ.set i (some (.ow c))) := id rfl
@[simp] theorem eParOF_ok {c : OC} : eParOF (.ok c τ) i j b ρ = eParF (b ρ τ) j ρ (ρ.set i (some (.ow c))) := id rfl
@[simp] theorem eParFO_ok : eParFO (.ok d τ) i j ψ ρ = eParO (ψ ρ τ) j ρ (ρ.set i (some (.fr d))) := id rfl
@[simp] theorem eParO_ok {c : OC} {ρ' : PEnv} : eParO (.ok c τ) j ρ ρ' = .ok (.nx (ρ'.set j (some (.ow c)))) τ := id rfl
@[simp] theorem eParF_ok {ρ' : PEnv} : eParF (.ok d τ) j ρ ρ' = .ok (.nx (ρ'.set j (some (.fr d)))) τ := id rfl
def eBor (o : Option (Option PV)) (i : Nat) (e : DE) (ρ : PEnv) (τ : TS') : R DD := match o with
  | some (some (.ow c)) => match e (bor i c ρ) none with
    | .ok d _ => if flatD d = true then .ok d τ else .no
    | _ => .no
  | _ => .no
def eBorT (o : Option (Option PV)) (i : Nat) (e : DT) (ρ : PEnv) (τ : TS') : R Bool := match o with
  | some (some (.ow c)) => match e (bor i c ρ) none with
    | .ok d _ => .ok d τ
    | _ => .no
  | _ => .no
def eBor2 (r : R DD) (τ : TS') : R DD := match r with
  | .ok d _ => if flatD d = true then .ok d τ else .no
  | _ => .no
def eBorT2 (r : R Bool) (τ : TS') : R Bool := match r with
  | .ok d _ => .ok d τ
  | _ => .no
@[simp] theorem ev_Bor : dBor i a ρ τ = eBor ρ[i]? i a ρ τ := id rfl
@[simp] theorem ev_BorT : dBorT i A ρ τ = eBorT ρ[i]? i A ρ τ := id rfl
@[simp] theorem eBor_ok {c : OC} : eBor (some (some (.ow c))) i a ρ τ = eBor2 (a (bor i c ρ) none) τ := id rfl
@[simp] theorem eBorT_ok {c : OC} : eBorT (some (some (.ow c))) i A ρ τ = eBorT2 (A (bor i c ρ) none) τ := id rfl
@[simp] theorem eBor2_i {n : Int} {τ' : TS'} : eBor2 (.ok (.int n) τ') τ = .ok (.int n) τ := id rfl
@[simp] theorem eBor2_s {n : Str} {τ' : TS'} : eBor2 (.ok (.str n) τ') τ = .ok (.str n) τ := id rfl
@[simp] theorem eBor2_b {n : Bool} {τ' : TS'} : eBor2 (.ok (.bl n) τ') τ = .ok (.bl n) τ := id rfl
@[simp] theorem eBor2_n {τ' : TS'} : eBor2 (.ok .non τ') τ = .ok .non τ := id rfl
@[simp] theorem eBorT2_ok {n : Bool} {τ' : TS'} : eBorT2 (.ok n τ') τ = .ok n τ := id rfl
@[simp] theorem bor_eq {c : OC} : bor i c ρ = (ρ.map hid).set i (some (.fr (ocD c))) := id rfl
@[simp] theorem hid_t : hid (some .tape) = none := id rfl
@[simp] theorem hid_n : hid none = none := id rfl
@[simp] theorem hid_f : hid (some (.fr d)) = some (.fr d) := id rfl
@[simp] theorem hid_o {c : OC} : hid (some (.ow c)) = some (.ow c) := id rfl
@[simp] theorem hid_s {ns : List Int} : hid (some (.scr ns)) = some (.scr ns) := id rfl
def eFor (r : R (List DD)) (g : Tg) (b : DS) (ρ : PEnv) : R Ct := stE r ρ fun ds τ1 => forL g b ds ρ τ1
@[simp] theorem ev_For : dFor I t δ ρ τ = eFor (I ρ τ) t δ ρ := id rfl
@[simp] theorem eFor_ok : eFor (.ok xs τ) t δ ρ = forL t δ xs ρ τ := id rfl
theorem forL_nil : forL t δ [] ρ τ = .ok (.nx ρ) τ := rfl
def eTurn (r : R Ct) (t : Tg) (b : DS) (ds : List DD) : R Ct := turnEnd r (forL t b ds)
theorem forL_cons {ρ1 : PEnv} (h : tgF t d ρ = some ρ1) : forL t δ (d :: xs) ρ τ = eTurn (δ ρ1 τ) t δ xs := by
  rw [forL, h]
  rfl
@[simp] theorem eTurn_nx : eTurn (.ok (.nx ρ) τ) t δ xs = forL t δ xs ρ τ := id rfl
@[simp] theorem eTurn_ct : eTurn (.ok (.ct ρ) τ) t δ xs = forL t δ xs ρ τ := id rfl
@[simp] theorem eTurn_bk : eTurn (.ok (.bk ρ) τ) t δ xs = .ok (.nx ρ) τ := id rfl
@[simp] theorem eTurn_rt : eTurn (.ok (.rt d) τ) t δ xs = .ok (.rt d) τ := id rfl
@[simp] theorem eTurn_xc {x : Ex} : eTurn (.ok (.xc x ρ) τ) t δ xs = .ok (.xc x ρ) τ := id rfl
/-- a loop by what holds ahead of each turn -/
theorem forL_inv {ds : List DD} (Inv : Nat → PEnv → TS' → Prop) (h0 : Inv 0 ρ τ)
    (hs : ∀ k d ρ τ, ds[k]? = some d → Inv k ρ τ → ∃ ρ1, tgF t d ρ = some ρ1 ∧ ∃ ρ2 τ2, (δ ρ1 τ = .ok (.nx ρ2) τ2 ∨ δ ρ1 τ = .ok (.ct ρ2) τ2) ∧ Inv (k + 1) ρ2 τ2) :
    ∃ ρ' τ', forL t δ ds ρ τ = .ok (.nx ρ') τ' ∧ Inv ds.length ρ' τ' := by
  have : ∀ (n k : Nat) (ρ : PEnv) (τ : TS'), ds.length - k = n → k ≤ ds.length → Inv k ρ τ → ∃ ρ' τ', forL t δ (ds.drop k) ρ τ = .ok (.nx ρ') τ' ∧ Inv ds.length ρ' τ' := by
    intro n
    induction n with
    | zero =>
      intro k ρ τ h1 h2 h3
      have e : k = ds.length := by omega
      subst e
      rw [List.drop_length]
      exact ⟨ρ, τ, rfl, h3⟩
    | succ n ih =>
      intro k ρ τ h1 h2 h3
      have hk : k < ds.length := by omega
      obtain ⟨ρ1, e1, ρ2, τ2, e2, h4⟩ := hs k ds[k] ρ τ (List.getElem?_eq_getElem hk) h3
      rw [List.drop_eq_getElem_cons hk, forL_cons e1]
      obtain ⟨ρ', τ', e3, h5⟩ := ih (k + 1) ρ2 τ2 (by omega) hk h4
      rcases e2 with e2 | e2
      · rw [e2, eTurn_nx]; exact ⟨ρ', τ', e3, h5⟩
      · rw [e2, eTurn_ct]; exact ⟨ρ', τ', e3, h5⟩
  have := this ds.length 0 ρ τ rfl (Nat.zero_le _) h0
  rwa [List.drop_zero] at this
def eTp (o : Option (Option PV)) (τ : TS') (k : Int) : R DD := match o, τ with
  | some (some .tape), some t => R.of (some t) (tauAt t k)
  | _, _ => .no
@[simp] theorem ev_Tp {k : Int} : dTp i k ρ τ = eTp ρ[i]? τ k := id rfl
@[simp] theorem eTp_ok {k : Int} {T : Tau} : eTp (some (some .tape)) (some T) k = R.of (some T) (tauAt T k) := id rfl
@[simp] theorem tauAt_0 {T : Tau} : tauAt T 0 = some (.lst (T.cells.map DD.int)) := id rfl
@[simp] theorem tauAt_1 {T : Tau} : tauAt T 1 = some (.int T.at') := id rfl
@[simp] theorem tauAt_2 {T : Tau} : tauAt T 2 = some (.int T.left) := id rfl
def eTpPut (r : R DD) (i : Nat) (k : Int) (ρ : PEnv) : R Ct := stE r ρ fun d τ1 => match ρ[i]?, τ1, d with
  | some (some .tape), some t, .int n => match tauPut t k n with
    | some t' => .ok (.nx ρ) (some t')
    | none => .no
  | _, _, _ => .no
def eTpPut2 (o : Option (Option PV)) (k : Int) (ρ : PEnv) (n : Int) (T : Tau) : R Ct := match o with
  | some (some .tape) => match tauPut T k n with
    | some t' => .ok (.nx ρ) (some t')
    | none => .no
  | _ => .no
@[simp] theorem ev_TpPut {k : Int} : dTpPut i k a ρ τ = eTpPut (a ρ τ) i k ρ := id rfl
@[simp] theorem eTpPut_ok {k n : Int} {T : Tau} : eTpPut (.ok (.int n) (some T)) i k ρ = eTpPut2 ρ[i]? k ρ n T := by
  unfold eTpPut eTpPut2
  simp only [stE_ok]
  split <;> split <;> first | rfl | simp_all
@[simp] theorem eTpPut2_1 {n : Int} {T : Tau} : eTpPut2 (some (some .tape)) 1 ρ n T = .ok (.nx ρ) (some { T with at' := n }) := id rfl
@[simp] theorem eTpPut2_2 {n : Int} {T : Tau} : eTpPut2 (some (some .tape)) 2 ρ n T = .ok (.nx ρ) (some { T with left := n }) := id rfl
def eMkT (o : Option (Option PV)) (τ : TS') (i : Nat) (ρ : PEnv) : R Ct := match o, τ with
  | some (some (.scr ns)), none => .ok (.nx (ρ.set i (some .tape))) (some ⟨cells0 ns, 0, 0, []⟩)
  | _, _ => .no
@[simp] theorem ev_MkT : dMkT i j ρ τ = eMkT ρ[j]? τ i ρ := id rfl
@[simp] theorem eMkT_ok {ns : List Int} : eMkT (some (some (.scr ns))) none i ρ = .ok (.nx (ρ.set i (some .tape))) (some ⟨cells0 ns, 0, 0, []⟩) := id rfl
variable {p : DP} {ps qs : DPs} {k n m : Nat} {F : Fn} {dv as bs : List PV} {gg : List PV → List PV → List PV}
@[simp] theorem ev_pNil : dpNil ρ τ = .ok [] τ := id rfl
@[simp] theorem ev_pCons : dpCons p ps ρ τ = eCons1 (p ρ τ) ps ρ := id rfl
@[simp] theorem ev_pE : dpE a ρ τ = eMap (a ρ τ) .fr := id rfl
def ePT (o : Option (Option PV)) (τ : TS') : R PV := match o with
  | some (some .tape) => .ok .tape τ
  | some (some (.scr ns)) => .ok (.scr ns) τ
  | _ => .no
@[simp] theorem ev_pT : dpT i ρ τ = ePT ρ[i]? τ := id rfl
@[simp] theorem ePT_t : ePT (some (some .tape)) τ = .ok .tape τ := id rfl
@[simp] theorem ePT_s {ns : List Int} : ePT (some (some (.scr ns))) τ = .ok (.scr ns) τ := id rfl
def eCallN (r : R (List PV)) (k : Nat) (F : Fn) (dv : List PV) : R DD := r.bind fun as τ1 => if as.length + dv.length = k then (F (as ++ dv) τ1).nox else .no
def eCallP (r : R (List PV)) (k : Nat) (F : Fn) (dv : List PV) : R DD := r.bind fun as τ1 => if as.length + dv.length = k then F (as ++ dv) τ1 else .no
@[simp] theorem ev_CallN : dCallN k F dv ps ρ τ = eCallN (ps ρ τ) k F dv := id rfl
@[simp] theorem ev_CallP : dCallP k F dv ps ρ τ = eCallP (ps ρ τ) k F dv := id rfl
@[simp] theorem eCallN_ok : eCallN (.ok as τ) k F dv = if as.length + dv.length = k then (F (as ++ dv) τ).nox else .no := id rfl
@[simp] theorem eCallP_ok : eCallP (.ok as τ) k F dv = if as.length + dv.length = k then F (as ++ dv) τ else .no := id rfl
def eCallK1 (r : R (List PV)) (k n m : Nat) (F : Fn) (g : List PV → List PV → List PV) (b : DPs) (ρ : PEnv) : R DD := r.bind fun as τ1 => (b ρ τ1).bind fun bs τ2 => if as.length = n ∧ bs.length = m ∧ (g as bs).length = k then F (g as bs) τ2 else .no
def eCallK2 (r : R (List PV)) (k n m : Nat) (F : Fn) (g : List PV → List PV → List PV) (as : List PV) : R DD := r.bind fun bs τ2 => if as.length = n ∧ bs.length = m ∧ (g as bs).length = k then F (g as bs) τ2 else .no
def eCallKN1 (r : R (List PV)) (k n m : Nat) (F : Fn) (g : List PV → List PV → List PV) (b : DPs) (ρ : PEnv) : R DD := r.bind fun as τ1 => (b ρ τ1).bind fun bs τ2 => if as.length = n ∧ bs.length = m ∧ (g as bs).length = k then (F (g as bs) τ2).nox else .no
def eCallKN2 (r : R (List PV)) (k n m : Nat) (F : Fn) (g : List PV → List PV → List PV) (as : List PV) : R DD := r.bind fun bs τ2 => if as.length = n ∧ bs.length = m ∧ (g as bs).length = k then (F (g as bs) τ2).nox else .no
@[simp] theorem ev_CallKP : dCallKP k n m F gg ps qs ρ τ = eCallK1 (ps ρ τ) k n m F gg qs ρ := id rfl
@[simp] theorem eCallK1_ok : eCallK1 (.ok as τ) k n m F gg qs ρ = eCallK2 (qs ρ τ) k n m F gg as := id rfl
@[simp] theorem eCallK2_ok : eCallK2 (.ok bs τ) k n m F gg as = if as.length = n ∧ bs.length = m ∧ (gg as bs).length = k then F (gg as bs) τ else .no := id rfl
@[simp] theorem ev_CallKN : dCallKN k n m F gg ps qs ρ τ = eCallKN1 (ps ρ τ) k n m F gg qs ρ := id rfl
@[simp] theorem eCallKN1_ok : eCallKN1 (.ok as τ) k n m F gg qs ρ = eCallKN2 (qs ρ τ) k n m F gg as := id rfl
@[simp] theorem eCallKN2_ok : eCallKN2 (.ok bs τ) k n m F gg as = if as.length = n ∧ bs.length = m ∧ (gg as bs).length = k then (F (gg as bs) τ).nox else .no := id rfl
def eBody (r : R Ct) (τ : TS') : R DD := match r with
  | .ok (.rt d) τ' => .ok d (fixT τ τ')
  | .ok (.nx _) τ' => .ok .non (fixT τ τ')
  | .ok (.xc x _) τ' => .ex x (fixT τ τ')
  | _ => .no
theorem ev_body : bodyF n δ as τ = eBody (δ (startP n as) τ) τ := id rfl
@[simp] theorem eBody_rt {τ' : TS'} : eBody (.ok (.rt d) τ') τ = .ok d (fixT τ τ') := id rfl
@[simp] theorem eBody_nx {τ' : TS'} : eBody (.ok (.nx ρ) τ') τ = .ok .non (fixT τ τ') := id rfl
@[simp] theorem eBody_xc {x : Ex} {τ' : TS'} : eBody (.ok (.xc x ρ) τ') τ = .ex x (fixT τ τ') := id rfl
@[simp] theorem fixT_some {t : Tau} {τ' : TS'} : fixT (some t) τ' = τ' := id rfl
@[simp] theorem fixT_none {τ' : TS'} : fixT none τ' = none := id rfl
def eRaise (r : R (List DD)) (cls : Str) (names : List Str) (ρ : PEnv) : R Ct := stE r ρ fun ds τ1 => if ds.length = names.length ∧ ds.length ≤ 1000 then .ok (.xc ⟨cls, (names.zip ds).reverse⟩ ρ) τ1 else .no
variable {cls : Str} {names : List Str}
@[simp] theorem ev_Raise : dRaise cls names r ρ τ = eRaise (r ρ τ) cls names ρ := id rfl
@[simp] theorem eRaise_ok : eRaise (.ok xs τ) cls names ρ = if xs.length = names.length ∧ xs.length ≤ 1000 then .ok (.xc ⟨cls, (names.zip xs).reverse⟩ ρ) τ else .no := id rfl
end
section
variable {ρ : PEnv} {τ : TS'} {a b c d : DE} {x y z : DD} {i j l k n m : Nat} {r : DA} {φ : PEnv → TS' → R OC} {F : FnO} {dv as bs : List PV} {ps qs : DPs} {gg : List PV → List PV → List PV} {xs : List DD} {C : OC} {δ : DS}
def eTd (o : Option (Option PV)) (τ : TS') (k : Pk) : R DD := match o, τ with
  | some (some .tape), some t => .ok (tauGet t k) (some t)
  | _, _ => .no
@[simp] theorem ev_Td {k : Pk} : dTd i k ρ τ = eTd ρ[i]? τ k := id rfl
@[simp] theorem eTd_ok {k : Pk} {T : Tau} : eTd (some (some .tape)) (some T) k = .ok (tauGet T k) (some T) := id rfl
@[simp] theorem tauGet_c {T : Tau} : tauGet T .cells = .lst (T.cells.map DD.int) := id rfl
@[simp] theorem tauGet_a {T : Tau} : tauGet T .at' = .int T.at' := id rfl
@[simp] theorem tauGet_l {T : Tau} : tauGet T .left = .int T.left := id rfl
def eTdPut (r : R DD) (i : Nat) (k : Pk) (ρ : PEnv) : R Ct := stE r ρ fun d τ1 => match ρ[i]?, τ1, d with
  | some (some .tape), some t, .int n => match tauSet t k n with
    | some t' => .ok (.nx ρ) (some t')
    | none => .no
  | _, _, _ => .no
def eTdPut2 (o : Option (Option PV)) (k : Pk) (ρ : PEnv) (n : Int) (T : Tau) : R Ct := match o with
  | some (some .tape) => match tauSet T k n with
    | some t' => .ok (.nx ρ) (some t')
    | none => .no
  | _ => .no
@[simp] theorem ev_TdPut {k : Pk} : dTdPut i k a ρ τ = eTdPut (a ρ τ) i k ρ := id rfl
@[simp] theorem eTdPut_ok {k : Pk} {n : Int} {T : Tau} : eTdPut (.ok (.int n) (some T)) i k ρ = eTdPut2 ρ[i]? k ρ n T := by
  unfold eTdPut eTdPut2
  simp only [stE_ok]
  split <;> split <;> first | rfl | simp_all
@[simp] theorem eTdPut2_a {n : Int} {T : Tau} : eTdPut2 (some (some .tape)) .at' ρ n T = .ok (.nx ρ) (some { T with at' := n }) := id rfl
@[simp] theorem eTdPut2_l {n : Int} {T : Tau} : eTdPut2 (some (some .tape)) .left ρ n T = .ok (.nx ρ) (some { T with left := n }) := id rfl
@[simp] theorem gRgL1_eq {n : Int} : gRgL1 (.int n) = if rgOk 0 n then some (.lst (rangeD 0 (n - 0).toNat)) else none := id rfl
def eRetF (r : R OC) (ρ : PEnv) : R Ct := stE r ρ fun c τ1 => .ok (.ro c) τ1
@[simp] theorem ev_RetF : dRetF φ ρ τ = eRetF (φ ρ τ) ρ := id rfl
@[simp] theorem eRetF_ok : eRetF (.ok C τ) ρ = .ok (.ro C) τ := id rfl
@[simp] theorem eSeq_ro : eSeq (.ok (.ro C) τ) δ = .ok (.ro C) τ := id rfl
@[simp] theorem eTurn_ro {t : Tg} : eTurn (.ok (.ro C) τ) t δ xs = .ok (.ro C) τ := id rfl
def eCallON (r : R (List PV)) (k : Nat) (F : FnO) (dv : List PV) : R OC := r.bind fun as τ1 => if as.length + dv.length = k then (F (as ++ dv) τ1).nox else .no
def eCallOP (r : R (List PV)) (k : Nat) (F : FnO) (dv : List PV) : R OC := r.bind fun as τ1 => if as.length + dv.length = k then F (as ++ dv) τ1 else .no
@[simp] theorem ev_CallON : dCallON k F dv ps ρ τ = eCallON (ps ρ τ) k F dv := id rfl
@[simp] theorem ev_CallOP : dCallOP k F dv ps ρ τ = eCallOP (ps ρ τ) k F dv := id rfl
@[simp] theorem eCallON_ok : eCallON (.ok as τ) k F dv = if as.length + dv.length = k then (F (as ++ dv) τ).nox else .no := id rfl
@[simp] theorem eCallOP_ok : eCallOP (.ok as τ) k F dv = if as.length + dv.length = k then F (as ++ dv) τ else .no := id rfl
def eCallKON1 (r : R (List PV)) (k n m : Nat) (F : FnO) (g : List PV → List PV → List PV) (b : DPs) (ρ : PEnv) : R OC := r.bind fun as τ1 => (b ρ τ1).bind fun bs τ2 => if as.length = n ∧ bs.length = m ∧ (g as bs).length = k then (F (g as bs) τ2).nox else .no
def eCallKON2 (r : R (List PV)) (k n m : Nat) (F : FnO) (g : List PV → List PV → List PV) (as : List PV) : R OC := r.bind fun bs τ2 => if as.length = n ∧ bs.length = m ∧ (g as bs).length = k then (F (g as bs) τ2).nox else .no
@[simp] theorem ev_CallKON : dCallKON k n m F gg ps qs ρ τ = eCallKON1 (ps ρ τ) k n m F gg qs ρ := id rfl
@[simp] theorem eCallKON1_ok : eCallKON1 (.ok as τ) k n m F gg qs ρ = eCallKON2 (qs ρ τ) k n m F gg as := id rfl
@[simp] theorem eCallKON2_ok : eCallKON2 (.ok bs τ) k n m F gg as = if as.length = n ∧ bs.length = m ∧ (gg as bs).length = k then (F (gg as bs) τ).nox else .no := id rfl
@[simp] theorem ev_Fz : dFz φ ρ τ = eMap (φ ρ τ) ocD := id rfl
def ePar3 (r : R (List DD)) (i j l : Nat) (ρ : PEnv) : R Ct := stE r ρ fun ds τ1 => match ds with
  | [d, e, f] => .ok (.nx (((ρ.set i (some (.fr d))).set j (some (.fr e))).set l (some (.fr f)))) τ1
  | _ => .no
@[simp] theorem ev_Par3 : dPar3 i j l r ρ τ = ePar3 (r ρ τ) i j l ρ := id rfl
@[simp] theorem ePar3_ok : ePar3 (.ok [x, y, z] τ) i j l ρ = .ok (.nx (((ρ.set i (some (.fr x))).set j (some (.fr y))).set l (some (.fr z)))) τ := id rfl
def ePar3O (r : R OC) (i j l : Nat) (b c : DE) (ρ : PEnv) : R Ct := stE r ρ fun x τ1 => stE (b ρ τ1) ρ fun y τ2 => stE (c ρ τ2) ρ fun z τ3 => .ok (.nx (((ρ.set i (some (.ow x))).set j (some (.fr y))).set l (some (.fr z)))) τ3
def ePar3O2 (r : R DD) (i j l : Nat) (x : OC) (c : DE) (ρ : PEnv) : R Ct := stE r ρ fun y τ2 => stE (c ρ τ2) ρ fun z τ3 => .ok (.nx (((ρ.set i (some (.ow x))).set j (some (.fr y))).set l (some (.fr z)))) τ3
def ePar3O3 (r : R DD) (i j l : Nat) (x : OC) (y : DD) (ρ : PEnv) : R Ct := stE r ρ fun z τ3 => .ok (.nx (((ρ.set i (some (.ow x))).set j (some (.fr y))).set l (some (.fr z)))) τ3
@[simp] theorem ev_Par3O : dPar3O i j l φ b c ρ τ = ePar3O (φ ρ τ) i j l b c ρ := id rfl
@[simp] theorem ePar3O_ok : ePar3O (.ok C τ) i j l b c ρ = ePar3O2 (b ρ τ) i j l C c ρ := id rfl
@[simp] theorem ePar3O2_ok : ePar3O2 (.ok y τ) i j l C c ρ = ePar3O3 (c ρ τ) i j l C y ρ := id rfl
@[simp] theorem ePar3O3_ok : ePar3O3 (.ok z τ) i j l C y ρ = .ok (.nx (((ρ.set i (some (.ow C))).set j (some (.fr y))).set l (some (.fr z)))) τ := id rfl
def eBodyO (r : R Ct) (τ : TS') : R OC := match r with
  | .ok (.ro c) τ' => .ok c (fixT τ τ')
  | .ok (.xc x _) τ' => .ex x (fixT τ τ')
  | _ => .no
theorem ev_bodyO : bodyO n δ as τ = eBodyO (δ (startP n as) τ) τ := id rfl
@[simp] theorem eBodyO_ro {τ' : TS'} : eBodyO (.ok (.ro C) τ') τ = .ok C (fixT τ τ') := id rfl
end
structure Tn (n : Nat) (t : Tau) : Prop where
  a0 : 0 ≤ t.at'
  a1 : t.at' ≤ n
  l0 : 0 ≤ t.left
theorem Tn.mono {n m : Nat} {t : Tau} (h : Tn n t) (e : n ≤ m) : Tn m t := ⟨h.a0, by have := h.a1; omega, h.l0⟩
@[simp] theorem toPys_ints : ∀ ns : List Int, toPys (ns.map DD.int) = some (ns.map PyData.int)
  | [] => by rw [List.map_nil, toPys] <;> rfl
  | n :: ns => by rw [List.map_cons, toPys, toPys_ints ns, toPy]; rfl
@[simp] theorem toPys_strs : ∀ ns : List Str, toPys (ns.map DD.str) = some (ns.map PyData.str)
  | [] => by rw [List.map_nil, toPys] <;> rfl
  | n :: ns => by rw [List.map_cons, toPys, toPys_strs ns, toPy]; rfl
theorem py2_eqs {g : PyData → PyData → Option DD} {a b : DD} {p q : PyData} (h1 : toPy a = some p) (h2 : toPy b = some q) (h3 : SeqAt.shaped p = true) (h4 : SeqAt.shaped q = true) : py2 g a b = g p q := by
  unfold py2
  rw [h1, h2]
  simp only
  rw [if_pos ⟨h3, h4⟩]
theorem toPy_ints (ns : List Int) : toPy (.lst (ns.map DD.int)) = some (.list (ns.map PyData.int)) := by rw [toPy, toPys_ints]; rfl
theorem toPy_nil : toPy (.lst []) = some (.list []) := by rw [toPy, toPys]; rfl
@[simp] theorem ne_nil_ints (ns : List Int) : gNeD (.lst (ns.map DD.int)) (.lst []) = some (.bl (!ns.isEmpty)) := by
  show py2 _ _ _ = _
  rw [py2_eqs (toPy_ints ns) toPy_nil (shaped_ints ns) rfl, eqv_nil, List.isEmpty_map]
end Np
namespace Np
open PySem PySem.Spec PyProof.Rows L2
@[simp] theorem fixT_self {τ : TS'} : fixT τ τ = τ := by cases τ <;> rfl
theorem atI_intsD {ns : List Int} {i : Int} (h0 : 0 ≤ i) (h1 : i < ns.length) : ∃ v, atI (ns.map DD.int) i = some (.int v) := by
  obtain ⟨j, rfl⟩ := Int.eq_ofNat_of_zero_le h0
  have hj : j < ns.length := by omega
  exact ⟨ns[j], atI_nat (by rw [List.getElem?_map, List.getElem?_eq_getElem hj] <;> rfl)⟩
theorem rangeD_map (lo : Int) (n : Nat) : rangeD lo n = ((List.range n).map fun (i : Nat) => lo + i).map DD.int := by
  unfold rangeD
  rw [List.map_map]
  rfl
@[simp] theorem rangeD_len (lo : Int) (n : Nat) : (rangeD lo n).length = n := rangeD_length lo n
theorem rangeD_get {lo : Int} {n k : Nat} {d : DD} (h : (rangeD lo n)[k]? = some d) : k < n ∧ d = .int (lo + k) := by
  have hk : k < n := by have := (List.getElem?_eq_some_iff.mp h).1; rwa [rangeD_length] at this
  unfold rangeD at h
  rw [List.getElem?_map, List.getElem?_range hk] at h
  cases h
  exact ⟨hk, rfl⟩
/-- a comprehension with draws: what holds of each, by the turn -/
theorem lcL_draw {t : Tg} {a : DE} {ρ : PEnv} (Pv : DD → Prop) (Inv : Nat → TS' → Prop) : ∀ (ds : List DD) (k : Nat) (τ : TS'), Inv k τ →
    (∀ j d τ, j < k + ds.length → d ∈ ds → Inv j τ → ∃ ρ1, tgF t d ρ = some ρ1 ∧ ∃ y τ', a ρ1 τ = .ok y τ' ∧ Pv y ∧ Inv (j + 1) τ') →
    ∃ ys τ', lcL t dYes a ρ ds τ = .ok ys τ' ∧ ys.length = ds.length ∧ (∀ y ∈ ys, Pv y) ∧ Inv (k + ds.length) τ'
  | [], k, τ, h, _ => ⟨[], τ, rfl, rfl, (fun _ h => by cases h), h⟩
  | d :: ds, k, τ, h, hs => by
    obtain ⟨ρ1, h1, y, τ', h2, h3, h4⟩ := hs k d τ (by rw [List.length_cons]; omega) List.mem_cons_self h
    obtain ⟨ys, τ2, e, l, q, i⟩ := lcL_draw Pv Inv ds (k + 1) τ' h4 fun j d τ hj hd => hs j d τ (by rw [List.length_cons]; omega) (List.mem_cons_of_mem _ hd)
    refine ⟨y :: ys, τ2, ?_, by rw [List.length_cons, l]; rfl, fun z hz => ?_, by rw [List.length_cons, show k + (ds.length + 1) = k + 1 + ds.length by omega]; exact i⟩
    · rw [lcL, h1]
      simp only [ev_Yes, R.nox_ok, R.bind_ok, if_true, h2, e]
    · rcases List.mem_cons.mp hz with rfl | hz
      · exact h3
      · exact q z hz
theorem all_ints {ys : List DD} {P : Int → Prop} (h : ∀ y ∈ ys, ∃ i, y = .int i ∧ P i) : ∃ ns : List Int, ys = ns.map DD.int ∧ ∀ n ∈ ns, P n := by
  induction ys with
  | nil => exact ⟨[], rfl, fun _ h => by cases h⟩
  | cons y ys ih =>
    obtain ⟨i, rfl, hp⟩ := h _ List.mem_cons_self
    obtain ⟨ns, rfl, hn⟩ := ih fun y hy => h y (List.mem_cons_of_mem _ hy)
    exact ⟨i :: ns, rfl, fun n hn' => by
      rcases List.mem_cons.mp hn' with rfl | q
      · exact hp
      · exact hn n q⟩
end Np
namespace Np
open PySem PySem.Spec PyProof.Rows L2
section
variable {t : Tg} {a : DE} {ρ ρ1 : PEnv} {τ : TS'} {d y : DD} {ds ys : List DD} {A : DT}
@[simp] theorem lcL_nil : lcL t A a ρ [] τ = .ok [] τ := id rfl
def eLy1 (o : Option PEnv) (t : Tg) (a : DE) (ρ : PEnv) (ds : List DD) (τ : TS') : R (List DD) := match o with
  | some ρ1 => (a ρ1 τ).nox.bind fun y τ2 => (lcL t dYes a ρ ds τ2).bind fun ys τ3 => .ok (y :: ys) τ3
  | none => .no
def eLy2 (r : R DD) (t : Tg) (a : DE) (ρ : PEnv) (ds : List DD) : R (List DD) := r.nox.bind fun y τ2 => (lcL t dYes a ρ ds τ2).bind fun ys τ3 => .ok (y :: ys) τ3
@[simp] theorem eLy1_ok : eLy1 (some ρ1) t a ρ ds τ = eLy2 (a ρ1 τ) t a ρ ds := id rfl
@[simp] theorem eLy2_ok : eLy2 (.ok y τ) t a ρ ds = eCons2 (lcL t dYes a ρ ds τ) y := id rfl
end
end Np
namespace Np
open PySem PySem.Spec PyProof.Rows L2
theorem rangeD_get0 {n k : Nat} {d : DD} (h : (rangeD 0 n)[k]? = some d) : k < n ∧ d = .int k := by
  obtain ⟨a, b⟩ := rangeD_get h
  rw [Int.zero_add] at b
  exact ⟨a, b⟩
end Np
namespace Np
open PySem PySem.Spec PyProof.Rows L2
theorem cutL_from {α : Type} {xs : List α} {a : Int} (h0 : 0 ≤ a) : cutL xs (some a) none = xs.drop a.toNat := by
  unfold cutL HT.sIx
  simp only
  rw [if_neg (by omega)]
  by_cases h : a.toNat ≤ xs.length
  · rw [Nat.min_eq_left h, List.take_of_length_le (by rw [List.length_drop]; omega)]
  · rw [Nat.min_eq_right (by omega), List.drop_length, List.drop_eq_nil_of_le (by omega)]
    simp
theorem cutL_to {α : Type} {xs : List α} {b : Int} (h0 : 0 ≤ b) : cutL xs none (some b) = xs.take b.toNat := by
  unfold cutL HT.sIx
  simp only
  rw [if_neg (by omega), List.drop_zero, Nat.sub_zero]
  by_cases h : b.toNat ≤ xs.length
  · rw [Nat.min_eq_left h]
  · rw [Nat.min_eq_right (by omega), List.take_length, List.take_of_length_le (by omega)]
end Np
set_option Elab.async false
set_option linter.all false
set_option maxRecDepth 100000
set_option maxHeartbeats 4000000
namespace Np
open PySem PySem.Spec PyProof.Rows L2
def Rb (n k : Nat) (d : DD) : Prop := ∃ p, toPy d = some p ∧ PyData.canLay0 p = true ∧ PyData.depth p ≤ k ∧ PyData.showable p = true ∧ PyData.leavesShort 60 p = true ∧ PyData.bulk p ≤ n
def RbA (n k : Nat) (ds : List DD) : Prop := ∃ ps, toPys ds = some ps ∧ PyData.canLayAll0 ps = true ∧ PyData.depthAll ps ≤ k ∧ PyData.showableAll ps = true ∧ PyData.leavesShortAll 60 ps = true ∧ PyData.bulkAll ps ≤ n
theorem Rb.mono {n k m j : Nat} {d : DD} (h : Rb n k d) (h1 : n ≤ m) (h2 : k ≤ j) : Rb m j d := by
  obtain ⟨p, a, b, c, e, f, g⟩ := h
  exact ⟨p, a, b, Nat.le_trans c h2, e, f, Nat.le_trans g h1⟩
theorem Rb.big {i : Int} (h : i.natAbs < 10 ^ 50) : Rb 0 0 (.int i) := by
  refine ⟨.int i, by rw [toPy], rfl, Nat.le_refl _, ?_, ?_, Nat.le_refl _⟩
  · simp only [PyData.showable, decide_eq_true_eq]
    by_cases h0 : i.natAbs = 0
    · rw [h0]; decide
    · have := (Nat.log2_lt h0 (k := 200)).mpr (Nat.lt_of_lt_of_le h (by decide))
      omega
  · simp only [PyData.leavesShort, decide_eq_true_eq]
    have := (Tx.num (k := 50) (by decide) h).len
    exact Nat.le_trans this (by decide)
theorem Rb.int {i : Int} (h : i.natAbs < 10 ^ 12) : Rb 0 0 (.int i) := Rb.big (Nat.lt_trans h (by decide))
theorem Rb.str {x : Str} {n : Nat} (h : Tx n x) : Rb n 0 (.str x) := by
  refine ⟨.str x, by rw [toPy], h.strOk, Nat.le_refl _, rfl, ?_, h.len⟩
  simp only [PyData.leavesShort, List.all_eq_true, decide_eq_true_eq]
  intro c hc
  have := h.ok c hc
  omega
theorem Rb.bl {b : Bool} : Rb 0 0 (.bl b) := ⟨.bool b, by rw [toPy], rfl, Nat.le_refl _, rfl, rfl, Nat.le_refl _⟩
theorem Rb.non : Rb 0 0 .non := ⟨.none, by rw [toPy], rfl, Nat.le_refl _, rfl, rfl, Nat.le_refl _⟩
theorem RbA.nil : RbA 0 0 [] := ⟨[], by rw [toPys], rfl, Nat.le_refl _, rfl, rfl, Nat.le_refl _⟩
theorem RbA.cons {n m k : Nat} {d : DD} {ds : List DD} (h : Rb n k d) (hs : RbA m k ds) : RbA (n + 1 + m) k (d :: ds) := by
  obtain ⟨p, a, b, c, e, f, g⟩ := h
  obtain ⟨ps, a', b', c', e', f', g'⟩ := hs
  refine ⟨p :: ps, by rw [toPys, a, a'], ?_, ?_, ?_, ?_, ?_⟩
  · show (PyData.canLay0 p && PyData.canLayAll0 ps) = true
    rw [b, b']; rfl
  · show max (PyData.depth p) (PyData.depthAll ps) ≤ k
    omega
  · show (PyData.showable p && PyData.showableAll ps) = true
    rw [e, e']; rfl
  · show (PyData.leavesShort 60 p && PyData.leavesShortAll 60 ps) = true
    rw [f, f']; rfl
  · show PyData.bulk p + 1 + PyData.bulkAll ps ≤ _
    omega
theorem RbA.all {n k : Nat} : ∀ {ds : List DD}, (∀ d ∈ ds, Rb n k d) → RbA ((n + 1) * ds.length) k ds
  | [], _ => by
    obtain ⟨ps, a, b, c, r⟩ := RbA.nil
    exact ⟨ps, a, b, Nat.le_trans c (Nat.zero_le _), r⟩
  | d :: ds, h => by
    have := (h d List.mem_cons_self).mono (Nat.le_refl n) (Nat.le_refl k)
    have ih := RbA.all (n := n) (k := k) (ds := ds) fun x hx => h x (List.mem_cons_of_mem _ hx)
    have r := RbA.cons this ih
    rw [List.length_cons, Nat.mul_succ, Nat.add_comm]
    exact r
theorem Rb.lst {n k : Nat} {ds : List DD} (h : RbA n k ds) : Rb n (k + 1) (.lst ds) := by
  obtain ⟨ps, a, b, c, e, f, g⟩ := h
  exact ⟨.list ps, by rw [toPy, a]; rfl, b, Nat.succ_le_succ c, e, f, g⟩
theorem Rb.tup {n k : Nat} {ds : List DD} (h : RbA n k ds) : Rb n (k + 1) (.tup ds) := by
  obtain ⟨ps, a, b, c, e, f, g⟩ := h
  exact ⟨.tuple ps, by rw [toPy, a]; rfl, b, Nat.succ_le_succ c, e, f, g⟩
theorem fits60 {d : PyData} (hl : d.leavesShort 60 = true) (hw : d.bulk ≤ 2 ^ 17) : d.shown.length ≤ sizeLine := by
  have h := PyData.shown_le_bulk 60 (by decide) d hl
  have e : (2 : Nat) ^ 17 = 131072 := by decide
  have h2 : (60 + 2) * d.bulk ≤ 62 * 131072 := Nat.mul_le_mul (Nat.le_refl _) (by omega)
  rw [sizeLine_eq]
  omega
theorem gRepr_ok {n k : Nat} {d : DD} {l : List DD} (h : Rb n k d) (hi : items? d = some l) (hn : n ≤ 2 ^ 17) (hk : k ≤ 64) : ∃ x, gRepr d = some (.str x) := by
  obtain ⟨p, a, b, c, e, f, g⟩ := h
  refine ⟨p.shown, ?_⟩
  unfold gRepr
  rw [a, hi]
  have sh : SeqAt.shaped p = true := by
    unfold SeqAt.shaped
    rw [b, decide_eq_true (Nat.le_trans c hk)] <;> rfl
  simp only
  rw [if_pos ⟨e, sh, fits60 f (Nat.le_trans g hn)⟩]
theorem Rb.shaped {n k : Nat} {d : DD} (h : Rb n k d) (hk : k ≤ 64) : ∃ p, toPy d = some p ∧ SeqAt.shaped p = true := by
  obtain ⟨p, a, b, c, _⟩ := h
  refine ⟨p, a, ?_⟩
  unfold SeqAt.shaped
  rw [b, decide_eq_true (Nat.le_trans c hk)] <;> rfl
mutual
def plainD : DD → Bool
  | .non => true
  | .int _ => true
  | .str _ => true
  | .lst ds => plainDs ds
  | .tup ds => plainDs ds
  | _ => false
def plainDs : List DD → Bool
  | [] => true
  | d :: ds => plainD d && plainDs ds
end
mutual
theorem eqv_iff : ∀ {a b : DD} {p q : PyData}, plainD a = true → plainD b = true → toPy a = some p → toPy b = some q → (PyData.eqv p q = true ↔ a = b)
  | a, b, p, q, ha, hb, h1, h2 => by
    match a, ha, h1 with
    | .non, _, h1 =>
      rw [toPy] at h1; cases h1
      match b, hb, h2 with
      | .non, _, h2 => rw [toPy] at h2; cases h2; simp [PyData.eqv]
      | .int j, _, h2 => rw [toPy] at h2; cases h2; simp [PyData.eqv]
      | .str j, _, h2 => rw [toPy] at h2; cases h2; simp [PyData.eqv]
      | .lst j, _, h2 => rw [toPy] at h2; obtain ⟨x, _, rfl⟩ := Option.map_eq_some_iff.mp h2; simp [PyData.eqv]
      | .tup j, _, h2 => rw [toPy] at h2; obtain ⟨x, _, rfl⟩ := Option.map_eq_some_iff.mp h2; simp [PyData.eqv]
    | .int i, _, h1 =>
      rw [toPy] at h1; cases h1
      match b, hb, h2 with
      | .non, _, h2 => rw [toPy] at h2; cases h2; simp [PyData.eqv]
      | .int j, _, h2 => rw [toPy] at h2; cases h2; simp [PyData.eqv]
      | .str j, _, h2 => rw [toPy] at h2; cases h2; simp [PyData.eqv]
      | .lst j, _, h2 => rw [toPy] at h2; obtain ⟨x, _, rfl⟩ := Option.map_eq_some_iff.mp h2; simp [PyData.eqv]
      | .tup j, _, h2 => rw [toPy] at h2; obtain ⟨x, _, rfl⟩ := Option.map_eq_some_iff.mp h2; simp [PyData.eqv]
    | .str i, _, h1 =>
      rw [toPy] at h1; cases h1
      match b, hb, h2 with
      | .non, _, h2 => rw [toPy] at h2; cases h2; simp [PyData.eqv]
      | .int j, _, h2 => rw [toPy] at h2; cases h2; simp [PyData.eqv]
      | .str j, _, h2 => rw [toPy] at h2; cases h2; simp [PyData.eqv]
      | .lst j, _, h2 => rw [toPy] at h2; obtain ⟨x, _, rfl⟩ := Option.map_eq_some_iff.mp h2; simp [PyData.eqv]
      | .tup j, _, h2 => rw [toPy] at h2; obtain ⟨x, _, rfl⟩ := Option.map_eq_some_iff.mp h2; simp [PyData.eqv]
    | .lst i, ha, h1 =>
      rw [toPy] at h1; obtain ⟨x, hx, rfl⟩ := Option.map_eq_some_iff.mp h1
      rw [plainD] at ha
      match b, hb, h2 with
      | .non, _, h2 => rw [toPy] at h2; cases h2; simp [PyData.eqv]
      | .int j, _, h2 => rw [toPy] at h2; cases h2; simp [PyData.eqv]
      | .str j, _, h2 => rw [toPy] at h2; cases h2; simp [PyData.eqv]
      | .lst j, hb, h2 =>
        rw [toPy] at h2; obtain ⟨y, hy, rfl⟩ := Option.map_eq_some_iff.mp h2
        rw [plainD] at hb
        rw [PyData.eqv, eqvs_iff ha hb hx hy]
        simp
      | .tup j, _, h2 => rw [toPy] at h2; obtain ⟨y, _, rfl⟩ := Option.map_eq_some_iff.mp h2; simp [PyData.eqv]
    | .tup i, ha, h1 =>
      rw [toPy] at h1; obtain ⟨x, hx, rfl⟩ := Option.map_eq_some_iff.mp h1
      rw [plainD] at ha
      match b, hb, h2 with
      | .non, _, h2 => rw [toPy] at h2; cases h2; simp [PyData.eqv]
      | .int j, _, h2 => rw [toPy] at h2; cases h2; simp [PyData.eqv]
      | .str j, _, h2 => rw [toPy] at h2; cases h2; simp [PyData.eqv]
      | .lst j, _, h2 => rw [toPy] at h2; obtain ⟨y, _, rfl⟩ := Option.map_eq_some_iff.mp h2; simp [PyData.eqv]
      | .tup j, hb, h2 =>
        rw [toPy] at h2; obtain ⟨y, hy, rfl⟩ := Option.map_eq_some_iff.mp h2
        rw [plainD] at hb
        rw [PyData.eqv, eqvs_iff ha hb hx hy]
        simp
theorem eqvs_iff : ∀ {a b : List DD} {p q : List PyData}, plainDs a = true → plainDs b = true → toPys a = some p → toPys b = some q → (PyData.eqvAll p q = true ↔ a = b)
  | [], b, p, q, _, hb, h1, h2 => by
    rw [toPys] at h1; cases h1
    cases b with
    | nil => rw [toPys] at h2; cases h2; simp [PyData.eqvAll]
    | cons y ys =>
      rw [toPys] at h2
      split at h2
      · cases h2; simp [PyData.eqvAll]
      · cases h2
  | x :: xs, b, p, q, ha, hb, h1, h2 => by
    rw [toPys] at h1
    rw [plainDs, Bool.and_eq_true] at ha
    split at h1
    · rename_i u us e1 e2
      cases h1
      cases b with
      | nil => rw [toPys] at h2; cases h2; simp [PyData.eqvAll]
      | cons y ys =>
        rw [toPys] at h2
        rw [plainDs, Bool.and_eq_true] at hb
        split at h2
        · rename_i v vs e3 e4
          cases h2
          rw [PyData.eqvAll, Bool.and_eq_true, eqv_iff ha.1 hb.1 e1 e3, eqvs_iff ha.2 hb.2 e2 e4]
          simp
        · cases h2
    · cases h1
end
theorem gNeD_eq {a b : DD} {n k m j : Nat} (ha : Rb n k a) (hb : Rb m j b) (hk : k ≤ 64) (hj : j ≤ 64) (pa : plainD a = true) (pb : plainD b = true) [Decidable (a = b)] : gNeD a b = some (.bl (!decide (a = b))) := by
  obtain ⟨p, h1, h3⟩ := ha.shaped hk
  obtain ⟨q, h2, h4⟩ := hb.shaped hj
  show py2 _ _ _ = _
  rw [py2_eqs h1 h2 h3 h4]
  congr 3
  have := eqv_iff pa pb h1 h2
  by_cases h : a = b
  · rw [decide_eq_true h]; exact this.mpr h
  · rw [decide_eq_false h]
    cases hh : PyData.eqv p q with
    | false => rfl
    | true => exact absurd (this.mp hh) h
end Np
namespace Np
open PySem PySem.Spec PyProof.Rows L2
@[simp] theorem eq_nil_ints (ns : List Int) : gEqD (.lst (ns.map DD.int)) (.lst []) = some (.bl ns.isEmpty) := by
  show py2 _ _ _ = _
  rw [py2_eqs (toPy_ints ns) toPy_nil (shaped_ints ns) rfl, eqv_nil, List.isEmpty_map]
theorem gInF_strs {i : Str} {ns : List Str} : gInF false (.str i) (.lst (ns.map DD.str)) = some (.bl (decide (i ∈ ns))) := by
  unfold gInF
  simp only [flat?, items?, Option.bind_some, flats?_strs, Bool.false_eq_true, if_false, inV_strs]
theorem gNeD_ints {ms ns : List Int} : gNeD (.lst (ms.map DD.int)) (.lst (ns.map DD.int)) = some (.bl (!decide (ms = ns))) := by
  show py2 _ _ _ = _
  rw [py2_eqs (toPy_ints ms) (toPy_ints ns) (shaped_ints ms) (shaped_ints ns)]
  congr 3
  have h : ∀ ms ns : List Int, PyData.eqvAll (ms.map PyData.int) (ns.map PyData.int) = decide (ms = ns) := by
    intro ms
    induction ms with
    | nil => intro ns; cases ns <;> simp [PyData.eqvAll]
    | cons m ms ih =>
      intro ns
      cases ns with
      | nil => simp [PyData.eqvAll]
      | cons n ns =>
        simp only [List.map_cons, PyData.eqvAll, PyData.eqv, ih]
        by_cases h1 : m = n <;> by_cases h2 : ms = ns <;> simp [h1, h2]
  rw [PyData.eqv, h]
end Np
set_option Elab.async false
set_option linter.all false
set_option maxRecDepth 100000
set_option maxHeartbeats 4000000
namespace Np
open PySem L2 PySem.StrLaws Builtin Builtin.Str
def eAsgL (r : R DD) (ts : List Tg) (ρ : PEnv) : R Ct := stE r ρ fun d τ1 => match d with
  | .lst ds => match tgFs ts ds ρ with
    | some ρ1 => .ok (.nx ρ1) τ1
    | none => .no
  | _ => .no
@[simp] theorem ev_AsgL {a : DE} {ts : List Tg} {ρ : PEnv} {τ : TS'} : dAsgL a ts ρ τ = eAsgL (a ρ τ) ts ρ := id rfl
@[simp] theorem eAsgL_3 {ρ : PEnv} {τ : TS'} {i j k : Nat} {x y z : DD} : eAsgL (.ok (.lst [x, y, z]) τ) [.nm i, .nm j, .nm k] ρ = .ok (.nx (((ρ.set i (some (.fr x))).set j (some (.fr y))).set k (some (.fr z)))) τ := by
  simp [eAsgL, tgFs, tgF, stE]
end Np
set_option Elab.async false
set_option linter.all false
set_option maxRecDepth 100000
set_option maxHeartbeats 4000000
namespace Np
open PySem L2
def S (l : List Nat) : PySem.Str := ⟨l.toArray⟩
theorem S_of (x : PySem.Str) : x = S x.cps.toList := by cases x; simp [S]
@[simp] theorem S_l (l : List Nat) : (S l).cps.toList = l := by simp [S]
@[simp] theorem S_n (l : List Nat) : (S l).length = l.length := by show l.toArray.size = _; simp
@[simp] theorem S_cat (a b : List Nat) : S a ++ S b = S (a ++ b) := by show Str.mk (a.toArray ++ b.toArray) = _; simp [S]
@[simp] theorem S_inj {a b : List Nat} : S a = S b ↔ a = b := ⟨fun h => by have := congrArg (fun z => z.cps.toList) h; simpa using this, fun h => by rw [h]⟩
@[simp] theorem S_cut (l : List Nat) (lo hi : Option Int) : cutS (S l) lo hi = S (cutL l lo hi) := by
  unfold cutS cutL
  rw [S_l, S_n]
  rfl
@[simp] theorem S_rev (l : List Nat) : revS (S l) = S l.reverse := by unfold revS; simp [S]
@[simp] theorem S_signs (l : List Nat) : signs (S l) = l.map fun c => DD.str (S [c]) := by unfold signs; rw [S_l]; rfl
theorem S_one (c : Nat) : (⟨#[c]⟩ : PySem.Str) = S [c] := rfl
def joinL (s : List Nat) : List (List Nat) → List Nat
  | [] => []
  | [x] => x
  | x :: y :: r => x ++ s ++ joinL s (y :: r)
theorem join_l (s : PySem.Str) : ∀ ps : List PySem.Str, (Str.join s ps).cps.toList = joinL s.cps.toList (ps.map fun z => z.cps.toList)
  | [] => rfl
  | [x] => rfl
  | x :: y :: r => by
    show (x ++ s ++ Str.join s (y :: r)).cps.toList = _
    rw [show ∀ a b : PySem.Str, (a ++ b).cps.toList = a.cps.toList ++ b.cps.toList from fun a b => by show (a.cps ++ b.cps).toList = _; simp]
    rw [show ∀ a b : PySem.Str, (a ++ b).cps.toList = a.cps.toList ++ b.cps.toList from fun a b => by show (a.cps ++ b.cps).toList = _; simp, join_l s (y :: r)]
    rfl
theorem joinT_S (s : List Nat) (ps : List (List Nat)) : Txt.join (S s) (ps.map S) = S (joinL s ps) := by
  have e : Txt.join (S s) (ps.map S) = Str.join (S s) (ps.map S) := StrLaws.glued_eq_join _ _
  rw [e, S_of (Str.join _ _), join_l, List.map_map]
  congr 1
  rw [S_l]
  congr 1
  conv => rhs; rw [← List.map_id ps]
  exact List.map_congr_left fun z _ => S_l z
theorem joinL_nil : ∀ ps : List (List Nat), joinL [] ps = ps.flatten
  | [] => rfl
  | [x] => by simp [joinL]
  | x :: y :: r => by rw [joinL, joinL_nil (y :: r)]; simp
section
variable {t : Tg} {a : DE} {A : DT} {ρ : PEnv} {τ : TS'} {α : Type}
theorem lcL_mapOf {mk f : α → DD} : ∀ {xs : List α}, (∀ x ∈ xs, ∃ ρ1, tgF t (mk x) ρ = some ρ1 ∧ a ρ1 τ = .ok (f x) τ) → lcL t dYes a ρ (xs.map mk) τ = .ok (xs.map f) τ
  | [], _ => rfl
  | x :: xs, h => by
    obtain ⟨ρ1, h1, h2⟩ := h x List.mem_cons_self
    rw [List.map_cons, lcL, h1]
    simp only [ev_Yes, R.nox_ok, R.bind_ok, if_true, h2]
    rw [lcL_mapOf fun d hd => h d (List.mem_cons_of_mem _ hd)] <;> rfl
theorem lcL_fmapOf {mk f : α → DD} {p : α → Bool} : ∀ {xs : List α}, (∀ x ∈ xs, ∃ ρ1, tgF t (mk x) ρ = some ρ1 ∧ A ρ1 τ = .ok (p x) τ ∧ (p x = true → a ρ1 τ = .ok (f x) τ)) → lcL t A a ρ (xs.map mk) τ = .ok ((xs.filter p).map f) τ
  | [], _ => rfl
  | x :: xs, h => by
    obtain ⟨ρ1, h1, h2, h3⟩ := h x List.mem_cons_self
    have ih := lcL_fmapOf (p := p) (f := f) (xs := xs) fun d hd => h d (List.mem_cons_of_mem _ hd)
    rw [List.map_cons, lcL, h1]
    simp only [h2, R.nox_ok, R.bind_ok]
    cases hp : p x with
    | false => rw [List.filter_cons_of_neg (by rw [hp]; decide)]; simp [ih]
    | true => rw [List.filter_cons_of_pos hp]; simp [h3 hp, ih]
@[simp] theorem bls?_mapf {f : α → Bool} (xs : List α) : bls? (xs.map fun x => DD.bl (f x)) = some (xs.map f) := by
  rw [← bls?_map, List.map_map]; rfl
@[simp] theorem ints?_mapf {f : α → Int} (xs : List α) : ints? (xs.map fun x => DD.int (f x)) = some (xs.map f) := by
  rw [← ints?_map, List.map_map]; rfl
@[simp] theorem strs?_mapf {f : α → PySem.Str} (xs : List α) : strs? (xs.map fun x => DD.str (f x)) = some (xs.map f) := by
  rw [← strs?_map, List.map_map]; rfl
end
@[simp] theorem atI_0 {α : Type} {x : α} {xs : List α} : atI (x :: xs) 0 = some x := by
  have : atI (x :: xs) ((0 : Nat) : Int) = some x := atI_nat rfl
  exact this
@[simp] theorem atI_1 {α : Type} {x y : α} {xs : List α} : atI (x :: y :: xs) 1 = some y := by
  have : atI (x :: y :: xs) ((1 : Nat) : Int) = some y := atI_nat rfl
  exact this
@[simp] theorem atI_2 {α : Type} {x y z : α} {xs : List α} : atI (x :: y :: z :: xs) 2 = some z := by
  have : atI (x :: y :: z :: xs) ((2 : Nat) : Int) = some z := atI_nat rfl
  exact this
@[simp] theorem atI_3 {α : Type} {x y z w : α} {xs : List α} : atI (x :: y :: z :: w :: xs) 3 = some w := by
  have : atI (x :: y :: z :: w :: xs) ((3 : Nat) : Int) = some w := atI_nat rfl
  exact this
@[simp] theorem atI_4 {α : Type} {x y z w u : α} {xs : List α} : atI (x :: y :: z :: w :: u :: xs) 4 = some u := by
  have : atI (x :: y :: z :: w :: u :: xs) ((4 : Nat) : Int) = some u := atI_nat rfl
  exact this
/-- right code points -/
def Cp (l : List Nat) : Prop := ∀ c ∈ l, c < 1114112
theorem Tx.S {n : Nat} {l : List Nat} (h : l.length ≤ n) (c : Cp l) : Tx n (Np.S l) := ⟨by rw [S_n]; exact h, by rw [S_l]; exact c⟩
theorem Tx.of {n : Nat} {l : List Nat} (h : Tx n (Np.S l)) : l.length ≤ n ∧ Cp l := ⟨by have := h.len; rwa [S_n] at this, by have := h.ok; rwa [S_l] at this⟩
theorem Cp.sub {l m : List Nat} (h : Cp m) (s : ∀ c ∈ l, c ∈ m) : Cp l := fun c hc => h c (s c hc)
theorem Cp.app {l m : List Nat} (h : Cp l) (k : Cp m) : Cp (l ++ m) := fun c hc => (List.mem_append.mp hc).elim (h c) (k c)
theorem Cp.take {l : List Nat} (h : Cp l) (n : Nat) : Cp (l.take n) := h.sub fun _ hc => List.mem_of_mem_take hc
theorem Cp.drop {l : List Nat} (h : Cp l) (n : Nat) : Cp (l.drop n) := h.sub fun _ hc => List.mem_of_mem_drop hc
theorem Cp.cons {l : List Nat} {c : Nat} (hc : c < 1114112) (h : Cp l) : Cp (c :: l) := fun x hx => by
  rcases List.mem_cons.mp hx with rfl | hx
  · exact hc
  · exact h x hx
theorem Cp.nil : Cp [] := fun x hx => by cases hx
theorem all_signs {ys : List DD} {P : Nat → Prop} (h : ∀ y ∈ ys, ∃ c, y = .str (S [c]) ∧ P c) : ∃ cs : List Nat, ys = cs.map (fun c => DD.str (S [c])) ∧ ∀ c ∈ cs, P c := by
  induction ys with
  | nil => exact ⟨[], rfl, fun c hc => by cases hc⟩
  | cons y ys ih =>
    obtain ⟨cs, e, q⟩ := ih fun y hy => h y (List.mem_cons_of_mem _ hy)
    obtain ⟨c, e2, q2⟩ := h y List.mem_cons_self
    refine ⟨c :: cs, by rw [e, e2]; rfl, fun x hx => ?_⟩
    rcases List.mem_cons.mp hx with rfl | hx
    · exact q2
    · exact q x hx
theorem flatten_ones : ∀ cs : List Nat, (cs.map fun c => [c]).flatten = cs
  | [] => rfl
  | c :: cs => by simp [flatten_ones cs]
theorem join_gen {s : List Nat} {ps : List (List Nat)} (h : (ps.map (·.length)).sum + ps.length * s.length ≤ 16777216) : gJoin (S s) [.lst (ps.map fun p => DD.str (S p))] = some (.str (S (joinL s ps))) := by
  have e := joinT_S s ps
  have e2 : (ps.map fun p => DD.str (S p)) = (ps.map S).map DD.str := by rw [List.map_map]; rfl
  unfold gJoin
  rw [e2]
  simp only [items?, Option.bind_some, strs?_map]
  rw [e, if_pos]
  rw [List.map_map, List.length_map, S_n, show ((fun x : PySem.Str => x.length) ∘ S) = (fun x => x.length) from funext fun x => S_n x]
  exact h
theorem sum_ones {α : Type} (cs : List α) : (cs.map fun _ => 1).sum = cs.length := by
  induction cs with
  | nil => rfl
  | cons c cs ih => simp [ih]; omega
theorem join_signs {cs : List Nat} (h : cs.length ≤ 16777216) : gJoin (S []) [.lst (cs.map fun c => DD.str (S [c]))] = some (.str (S cs)) := by
  have := join_gen (s := []) (ps := cs.map fun c => [c]) (by
    rw [List.map_map]
    have := sum_ones cs
    simp only [Function.comp_def, List.length_cons, List.length_nil, Nat.zero_add, Nat.mul_zero, Nat.add_zero]
    rw [sum_ones]; exact h)
  rw [List.map_map, joinL_nil, flatten_ones] at this
  exact this
end Np
set_option Elab.async false
set_option linter.all false
set_option maxRecDepth 100000
set_option maxHeartbeats 4000000
namespace Np
open PySem L2
section
variable {ρ ρ1 : PEnv} {τ τ1 : TS'} {δ : DS} {a b : DE} {d : DD} {x : Ex} {C : OC} {i j : Nat} {exm kit : PySem.Str → Option Bool} {ok : PySem.Str → Bool}
def eTryK (r : R Ct) (exm : PySem.Str → Option Bool) (i j : Nat) : R Ct := match r with
  | .ok (.xc x ρ1) τ1 => match exm x.cls with
    | some true => if i < ρ1.length then .ok (.nx ((ρ1.set j (some (.fr (.exc x.cls x.fs)))).set i none)) τ1 else .no
    | some false => .ok (.xc x ρ1) τ1
    | none => .no
  | r => r
def eTx (o : Option Bool) (x : Ex) (ρ1 : PEnv) (τ1 : TS') (i j : Nat) : R Ct := match o with
  | some true => if i < ρ1.length then .ok (.nx ((ρ1.set j (some (.fr (.exc x.cls x.fs)))).set i none)) τ1 else .no
  | some false => .ok (.xc x ρ1) τ1
  | none => .no
@[simp] theorem ev_TryK : dTryK exm i j δ ρ τ = eTryK (δ ρ τ) exm i j := id rfl
@[simp] theorem eTryK_nx : eTryK (.ok (.nx ρ) τ) exm i j = .ok (.nx ρ) τ := id rfl
@[simp] theorem eTryK_rt : eTryK (.ok (.rt d) τ) exm i j = .ok (.rt d) τ := id rfl
@[simp] theorem eTryK_bk : eTryK (.ok (.bk ρ) τ) exm i j = .ok (.bk ρ) τ := id rfl
@[simp] theorem eTryK_ct : eTryK (.ok (.ct ρ) τ) exm i j = .ok (.ct ρ) τ := id rfl
@[simp] theorem eTryK_xc : eTryK (.ok (.xc x ρ) τ) exm i j = eTx (exm x.cls) x ρ τ i j := id rfl
@[simp] theorem eTx_t : eTx (some true) x ρ τ i j = if i < ρ.length then .ok (.nx ((ρ.set j (some (.fr (.exc x.cls x.fs)))).set i none)) τ else .no := id rfl
@[simp] theorem eTx_f : eTx (some false) x ρ τ i j = .ok (.xc x ρ) τ := id rfl
@[simp] theorem tb_eq {A : PySem.Str} {v : Bool} {r : PySem.Str → Option Bool} : tb A v r A = some v := if_pos rfl
def eIsX (r : R DD) (kit : PySem.Str → Option Bool) : R DD := r.bind fun x τ1 => match x with
  | .exc C _ => R.of τ1 ((kit C).map .bl)
  | _ => .no
@[simp] theorem ev_IsX : dIsX kit a ρ τ = eIsX (a ρ τ) kit := id rfl
@[simp] theorem eIsX_ok {A : PySem.Str} {fs : List (PySem.Str × DD)} : eIsX (.ok (.exc A fs) τ) kit = R.of τ ((kit A).map .bl) := id rfl
def eFx (r : R DD) (ok : PySem.Str → Bool) (f : PySem.Str) : R DD := r.bind fun x τ1 => match x with
  | .exc C fs => if ok C = true then R.of τ1 (fs.lookup f) else .no
  | _ => .no
@[simp] theorem ev_Fx {f : PySem.Str} : dFx ok f a ρ τ = eFx (a ρ τ) ok f := id rfl
@[simp] theorem eFx_ok {A f : PySem.Str} {fs : List (PySem.Str × DD)} : eFx (.ok (.exc A fs) τ) ok f = if ok A = true then R.of τ (fs.lookup f) else .no := id rfl
@[simp] theorem gIsN_x {k : Bool} {A : PySem.Str} {fs : List (PySem.Str × DD)} : gIsN k (.exc A fs) .non = some (.bl k) := id rfl
@[simp] theorem gIsN_o {k : Bool} {A : PySem.Str} {fs : List (PySem.Str × DD)} : gIsN k (.obj A fs) .non = some (.bl k) := id rfl
@[simp] theorem gIsN_d {k : Bool} {fs : List (Key × DD)} : gIsN k (.dic fs) .non = some (.bl k) := id rfl
@[simp] theorem gIsi_d {T : String} {fs : List (Key × DD)} : gIsi T (.dic fs) = some (.bl (isT T "dict")) := id rfl
theorem ev_bodyN {n : Nat} {as : List PV} : bodyN n δ as τ = (eBody (δ (startP n as) τ) τ).nox := id rfl
@[simp] theorem R.nox_ex {α : Type} {x : Ex} : (R.ex x τ : R α).nox = .no := id rfl
def eOrU (r : R DD) (b : DE) (ρ : PEnv) : R DD := r.bind fun x τ1 => (R.of τ1 (tru x)).bind fun k τ2 => if k = true then .ok x τ2 else b ρ τ2
def eAndU (r : R DD) (b : DE) (ρ : PEnv) : R DD := r.bind fun x τ1 => (R.of τ1 (tru x)).bind fun k τ2 => if k = true then b ρ τ2 else .ok x τ2
def eOrU2 (o : Option Bool) (x : DD) (b : DE) (ρ : PEnv) (τ : TS') : R DD := (R.of τ o).bind fun k τ2 => if k = true then .ok x τ2 else b ρ τ2
def eAndU2 (o : Option Bool) (x : DD) (b : DE) (ρ : PEnv) (τ : TS') : R DD := (R.of τ o).bind fun k τ2 => if k = true then b ρ τ2 else .ok x τ2
@[simp] theorem ev_OrU : dOrU a b ρ τ = eOrU (a ρ τ) b ρ := id rfl
@[simp] theorem ev_AndU : dAndU a b ρ τ = eAndU (a ρ τ) b ρ := id rfl
@[simp] theorem eOrU_ok : eOrU (.ok d τ) b ρ = eOrU2 (tru d) d b ρ τ := id rfl
@[simp] theorem eAndU_ok : eAndU (.ok d τ) b ρ = eAndU2 (tru d) d b ρ τ := id rfl
@[simp] theorem eOrU2_t : eOrU2 (some true) d b ρ τ = .ok d τ := id rfl
@[simp] theorem eOrU2_f : eOrU2 (some false) d b ρ τ = b ρ τ := id rfl
@[simp] theorem eAndU2_t : eAndU2 (some true) d b ρ τ = b ρ τ := id rfl
@[simp] theorem eAndU2_f : eAndU2 (some false) d b ρ τ = .ok d τ := id rfl
def eTrF (r : R OC) : R OC := r.bind fun c τ1 => match ocT c with
  | .nd k ts => .ok (.tr k ts) τ1
  | .fr _ => .no
@[simp] theorem ev_TrF {φ : PEnv → TS' → R OC} : dTrF φ ρ τ = eTrF (φ ρ τ) := id rfl
@[simp] theorem eTrF_l {xs : List DD} : eTrF (.ok (.lst xs) τ) = .ok (.tr .lst (xs.map .fr)) τ := id rfl
@[simp] theorem ocT_l {xs : List DD} : ocT (.lst xs) = .nd .lst (xs.map .fr) := id rfl
@[simp] theorem ocT_t {k : Kd} {ts : List OT} : ocT (.tr k ts) = .nd k ts := id rfl
def eAppT (o : Option (Option PV)) (i : Nat) (φ : PEnv → TS' → R OC) (ρ : PEnv) (τ : TS') : R Ct := match o with
  | some (some (.ow (.tr .lst ts))) => stE (φ ρ τ) ρ fun c τ1 => if ts.length < sizeLine then .ok (.nx (ρ.set i (some (.ow (.tr .lst (ts ++ [ocT c])))))) τ1 else .no
  | _ => .no
def eAppT2 (r : R OC) (i : Nat) (ts : List OT) (ρ : PEnv) : R Ct := stE r ρ fun c τ1 => if ts.length < sizeLine then .ok (.nx (ρ.set i (some (.ow (.tr .lst (ts ++ [ocT c])))))) τ1 else .no
@[simp] theorem ev_AppT {φ : PEnv → TS' → R OC} : dAppT i φ ρ τ = eAppT ρ[i]? i φ ρ τ := id rfl
@[simp] theorem eAppT_ok {φ : PEnv → TS' → R OC} {ts : List OT} : eAppT (some (some (.ow (.tr .lst ts)))) i φ ρ τ = eAppT2 (φ ρ τ) i ts ρ := id rfl
@[simp] theorem eAppT2_ok {ts : List OT} : eAppT2 (.ok C τ) i ts ρ = if ts.length < 16777216 then .ok (.nx (ρ.set i (some (.ow (.tr .lst (ts ++ [ocT C])))))) τ else .no := by
  show (if ts.length < sizeLine then _ else _) = _
  rw [sizeLine_eq]
def eAppL (o : Option (Option PV)) (i : Nat) (e : DE) (ρ : PEnv) (τ : TS') : R Ct := match o with
  | some (some (.ow (.tr .lst ts))) => stE (e ρ τ) ρ fun d τ1 => if ts.length < sizeLine then .ok (.nx (ρ.set i (some (.ow (.tr .lst (ts ++ [.fr d])))))) τ1 else .no
  | _ => .no
def eAppL2 (r : R DD) (i : Nat) (ts : List OT) (ρ : PEnv) : R Ct := stE r ρ fun d τ1 => if ts.length < sizeLine then .ok (.nx (ρ.set i (some (.ow (.tr .lst (ts ++ [.fr d])))))) τ1 else .no
@[simp] theorem ev_AppL : dAppL i a ρ τ = eAppL ρ[i]? i a ρ τ := id rfl
@[simp] theorem eAppL_ok {ts : List OT} : eAppL (some (some (.ow (.tr .lst ts)))) i a ρ τ = eAppL2 (a ρ τ) i ts ρ := id rfl
@[simp] theorem eAppL2_ok {ts : List OT} : eAppL2 (.ok d τ) i ts ρ = if ts.length < 16777216 then .ok (.nx (ρ.set i (some (.ow (.tr .lst (ts ++ [.fr d])))))) τ else .no := by
  show (if ts.length < sizeLine then _ else _) = _
  rw [sizeLine_eq]
def eAppIx (o : Option (Option PV)) (i : Nat) (k e : DE) (ρ : PEnv) (τ : TS') : R Ct := match o with
  | some (some (.ow (.tr .lst ts))) => stE (k ρ τ) ρ fun n τ1 => match n with
    | .int n => match ixN ts.length n with
      | some j => match ts[j]? with
        | some (.nd .lst us) => stE (e ρ τ1) ρ fun d τ2 => if us.length < sizeLine then .ok (.nx (ρ.set i (some (.ow (.tr .lst (ts.set j (.nd .lst (us ++ [.fr d])))))))) τ2 else .no
        | _ => .no
      | none => .no
    | _ => .no
  | _ => .no
@[simp] theorem ev_AppIx {k : DE} : dAppIx i k a ρ τ = eAppIx ρ[i]? i k a ρ τ := id rfl
@[simp] theorem ocD_t {k : Kd} {ts : List OT} : ocD (.tr k ts) = otD (.nd k ts) := id rfl
@[simp] theorem gRepl_eq {y z w : PySem.Str} : gRepl y z (.str w) = if w.length + (w.length + 1) * z.length ≤ 16777216 then some (.str (Txt.replace w y z)) else none := id rfl
@[simp] theorem pickL_nil {α : Type} {dv us ws : List α} : pickL dv [] us ws = [] := id rfl
@[simp] theorem pickL_a0 {α : Type} {dv us ws : List α} {u : α} {ix : List Ix} : pickL dv (.a 0 :: ix) (u :: us) ws = u :: pickL dv ix (u :: us) ws := id rfl
/-- lists of texts -/
def sL (ps : List (List Nat)) : List DD := ps.map fun p => .str (S p)
@[simp] theorem sL_nil : sL [] = [] := id rfl
@[simp] theorem sL_cons {p : List Nat} {ps : List (List Nat)} : sL (p :: ps) = .str (S p) :: sL ps := id rfl
@[simp] theorem sL_app {ps qs : List (List Nat)} : sL (ps ++ qs) = sL ps ++ sL qs := by unfold sL; rw [List.map_append]
@[simp] theorem sL_len {ps : List (List Nat)} : (sL ps).length = ps.length := by unfold sL; rw [List.length_map]
theorem enumD_get {ds : List DD} {k : Nat} {d : DD} (h : (enumD ds)[k]? = some d) : ∃ x, ds[k]? = some x ∧ d = .tup [.int (k : Nat), x] := by
  unfold enumD at h
  rw [List.getElem?_mapIdx] at h
  obtain ⟨x, h1, h2⟩ := Option.map_eq_some_iff.mp h
  exact ⟨x, h1, h2.symm⟩
theorem enumD_len {ds : List DD} : (enumD ds).length = ds.length := by unfold enumD; rw [List.length_mapIdx]
theorem tgF_two {i j : Nat} {x y : DD} : tgF (.tp [.nm i, .nm j]) (.tup [x, y]) ρ = some ((ρ.set i (some (.fr x))).set j (some (.fr y))) := by simp
def Cps (ps : List (List Nat)) : Prop := ∀ p ∈ ps, Cp p
theorem Cps.app {ps qs : List (List Nat)} (h : Cps ps) (k : Cps qs) : Cps (ps ++ qs) := fun p hp => (List.mem_append.mp hp).elim (h p) (k p)
theorem Cps.nil : Cps [] := fun p hp => by cases hp
theorem Cp.join {s : List Nat} (hs : Cp s) : ∀ {ps : List (List Nat)}, Cps ps → Cp (joinL s ps)
  | [], _ => Cp.nil
  | [x], h => h x (by simp)
  | x :: y :: r, h => ((h x (by simp)).app hs).app (Cp.join hs fun p hp => h p (List.mem_cons_of_mem _ hp))
end
end Np
set_option Elab.async false
set_option linter.all false
set_option maxRecDepth 100000
set_option maxHeartbeats 4000000
namespace Np
open PySem L2
section
variable {ρ : PEnv} {τ : TS'} {a b r : DA} {e : DE} {as bs : List DD} {n m : Nat} {cls f : PySem.Str} {names : List PySem.Str} {ix : List Ix}
def eMk1 (r : R (List DD)) (n m : Nat) (cls : PySem.Str) (names : List PySem.Str) (ix : List Ix) (b : DA) (ρ : PEnv) : R DD := r.bind fun as τ1 => (b ρ τ1).bind fun bs τ2 =>
  if as.length = n ∧ bs.length = m ∧ (pickL [] ix as bs).length = names.length then .ok (mkD cls names ix as bs) τ2 else .no
def eMk2 (r : R (List DD)) (n m : Nat) (cls : PySem.Str) (names : List PySem.Str) (ix : List Ix) (as : List DD) : R DD := r.bind fun bs τ2 =>
  if as.length = n ∧ bs.length = m ∧ (pickL [] ix as bs).length = names.length then .ok (mkD cls names ix as bs) τ2 else .no
@[simp] theorem ev_MkN : dMkN n m cls names ix a b ρ τ = eMk1 (a ρ τ) n m cls names ix b ρ := id rfl
@[simp] theorem eMk1_ok : eMk1 (.ok as τ) n m cls names ix b ρ = eMk2 (b ρ τ) n m cls names ix as := id rfl
@[simp] theorem eMk2_ok : eMk2 (.ok bs τ) n m cls names ix as = if as.length = n ∧ bs.length = m ∧ (pickL [] ix as bs).length = names.length then .ok (mkD cls names ix as bs) τ else .no := id rfl
def fldD (cls f : PySem.Str) : DD → Option DD
  | .obj C fs => if C = cls then fs.lookup f else none
  | _ => none
@[simp] theorem ev_Fld : dFld cls f e ρ τ = eUn (e ρ τ) (fldD cls f) := by
  unfold dFld eUn
  congr 1
  funext x τ1
  unfold fldD
  cases x <;> first | rfl | (dsimp only [R.of]; split <;> rfl)
def eEnF1 (r : R (List DD)) (b : DA) (ρ : PEnv) : R (List DD) := r.bind fun x τ1 => (b ρ τ1).bind fun y τ2 => match x, y with
  | [.lst ds], [.int k0] => if -(2 ^ 63) ≤ k0 ∧ k0 < 2 ^ 63 then .ok (enumF k0 ds) τ2 else .no
  | _, _ => .no
def eEnF2 (r : R (List DD)) (x : List DD) : R (List DD) := r.bind fun y τ2 => match x, y with
  | [.lst ds], [.int k0] => if -(2 ^ 63) ≤ k0 ∧ k0 < 2 ^ 63 then .ok (enumF k0 ds) τ2 else .no
  | _, _ => .no
@[simp] theorem ev_IEnumF : dIEnumF a b ρ τ = eEnF1 (a ρ τ) b ρ := id rfl
@[simp] theorem eEnF1_ok : eEnF1 (.ok as τ) b ρ = eEnF2 (b ρ τ) as := id rfl
@[simp] theorem eEnF2_ok {ds : List DD} {k0 : Int} : eEnF2 (.ok [.int k0] τ) [.lst ds] = if -(2 ^ 63) ≤ k0 ∧ k0 < 2 ^ 63 then .ok (enumF k0 ds) τ else .no := id rfl
def rg3 : List DD → Option (List DD)
  | [.int i, .int j, .int c] => if RgC i j c (Builtin.Range.rangeSize i j c).toNat then some (rangeC i c (Builtin.Range.rangeSize i j c).toNat) else none
  | _ => none
@[simp] theorem ev_IR3 : dIR3 r ρ τ = eUn (r ρ τ) rg3 := by
  unfold dIR3 eUn
  congr 1
  funext x τ1
  unfold rg3
  rcases x with _ | ⟨d, _ | ⟨e, _ | ⟨f, _ | ⟨g, x⟩⟩⟩⟩
  · rfl
  · cases d <;> rfl
  · cases d <;> cases e <;> rfl
  · cases d <;> cases e <;> cases f <;> first | rfl | (dsimp only [R.of]; split <;> rfl)
  · cases d <;> cases e <;> cases f <;> rfl
@[simp] theorem c3_eq {g : DD → DD → DD → Option DD} {x y z : DD} : c3 g [x, y, z] = g x y z := id rfl
@[simp] theorem gMin3_eq {i j k : Int} : gMin3 (.int i) (.int j) (.int k) = some (.int (min3 i j k)) := id rfl
@[simp] theorem gSortI_ints (ns : List Int) : gSortI (.lst (ns.map DD.int)) = some (.lst ((sortI ns).map DD.int)) := by
  have e : ints? (ns.map DD.int) = some ns := by
    induction ns with
    | nil => rfl
    | cons n ns ih => rw [List.map_cons, ints?, ih]; rfl
  show (ints? (ns.map DD.int)).map _ = _
  rw [e]
  rfl
end
end Np
set_option Elab.async false
set_option linter.all false
set_option maxRecDepth 100000
set_option maxHeartbeats 4000000
namespace Np
open PySem PySem.Spec PyProof.Rows L2
section
variable {ρ : PEnv} {τ τ' : TS'} {a b e : DE} {r : DA} {ps qs : DPs} {k n m : Nat} {F : Fn} {FI : FnI} {FO : FnO} {g : List PV → List PV → List PV} {as bs : List PV} {cls mm f : PySem.Str} {fs gs : List (PySem.Str × DD)} {d x y : DD}
noncomputable def eMkP2 (r : R (List PV)) (k n m : Nat) (F : FnI) (g : List PV → List PV → List PV) (as : List PV) : R DD := r.bind fun bs τ2 => if as.length = n ∧ bs.length = m ∧ (g as bs).length + 1 = k then allX F (g as bs) τ2 else .no
noncomputable def eMkP1 (r : R (List PV)) (k n m : Nat) (F : FnI) (g : List PV → List PV → List PV) (b : DPs) (ρ : PEnv) : R DD := r.bind fun as τ1 => eMkP2 (b ρ τ1) k n m F g as
@[simp] theorem ev_MkP : dMkP k n m FI g ps qs ρ τ = eMkP1 (ps ρ τ) k n m FI g qs ρ := id rfl
@[simp] theorem eMkP1_ok : eMkP1 (.ok as τ) k n m FI g qs ρ = eMkP2 (qs ρ τ) k n m FI g as := id rfl
@[simp] theorem eMkP2_ok : eMkP2 (.ok bs τ) k n m FI g as = if as.length = n ∧ bs.length = m ∧ (g as bs).length + 1 = k then allX FI (g as bs) τ else .no := id rfl
noncomputable def eMkN2 (r : R (List PV)) (k n m : Nat) (F : FnI) (g : List PV → List PV → List PV) (as : List PV) : R DD := r.bind fun bs τ2 => if as.length = n ∧ bs.length = m ∧ (g as bs).length + 1 = k then (allX F (g as bs) τ2).nox else .no
noncomputable def eMkN1 (r : R (List PV)) (k n m : Nat) (F : FnI) (g : List PV → List PV → List PV) (b : DPs) (ρ : PEnv) : R DD := r.bind fun as τ1 => eMkN2 (b ρ τ1) k n m F g as
@[simp] theorem ev_MkN' : dMkN' k n m FI g ps qs ρ τ = eMkN1 (ps ρ τ) k n m FI g qs ρ := id rfl
@[simp] theorem eMkN1_ok : eMkN1 (.ok as τ) k n m FI g qs ρ = eMkN2 (qs ρ τ) k n m FI g as := id rfl
@[simp] theorem eMkN2_ok : eMkN2 (.ok bs τ) k n m FI g as = if as.length = n ∧ bs.length = m ∧ (g as bs).length + 1 = k then (allX FI (g as bs) τ).nox else .no := id rfl
def eMeN2 (r : R (List PV)) (k : Nat) (F : Fn) (x : DD) : R DD := r.bind fun as τ2 => if as.length + 1 = k then (F (.fr x :: as) τ2).nox else .no
def eMeN1 (r : R DD) (k : Nat) (cls m : PySem.Str) (F : Fn) (ps : DPs) (ρ : PEnv) : R DD := r.bind fun x τ1 => match x with
  | .obj C fs => if C = cls ∧ fs.lookup m = none then eMeN2 (ps ρ τ1) k F (.obj C fs) else .no
  | _ => .no
@[simp] theorem ev_MethN : dMethN k cls mm F a ps ρ τ = eMeN1 (a ρ τ) k cls mm F ps ρ := by
  unfold dMethN eMeN1
  congr 1
@[simp] theorem eMeN1_ok : eMeN1 (.ok (.obj cls fs) τ) k cls mm F ps ρ = if fs.lookup mm = none then eMeN2 (ps ρ τ) k F (.obj cls fs) else .no := by
  simp only [eMeN1, R.bind_ok, true_and]
@[simp] theorem eMeN2_ok : eMeN2 (.ok as τ) k F x = if as.length + 1 = k then (F (.fr x :: as) τ).nox else .no := id rfl
def eMeO2 (r : R (List PV)) (k : Nat) (F : FnO) (x : DD) : R OC := r.bind fun as τ2 => if as.length + 1 = k then (F (.fr x :: as) τ2).nox else .no
def eMeO1 (r : R DD) (k : Nat) (cls m : PySem.Str) (F : FnO) (ps : DPs) (ρ : PEnv) : R OC := r.bind fun x τ1 => match x with
  | .obj C fs => if C = cls ∧ fs.lookup m = none then eMeO2 (ps ρ τ1) k F (.obj C fs) else .no
  | _ => .no
@[simp] theorem ev_MethON : dMethON k cls mm FO a ps ρ τ = eMeO1 (a ρ τ) k cls mm FO ps ρ := by
  unfold dMethON eMeO1
  congr 1
@[simp] theorem eMeO1_ok : eMeO1 (.ok (.obj cls fs) τ) k cls mm FO ps ρ = if fs.lookup mm = none then eMeO2 (ps ρ τ) k FO (.obj cls fs) else .no := by
  simp only [eMeO1, R.bind_ok, true_and]
@[simp] theorem eMeO2_ok : eMeO2 (.ok as τ) k FO x = if as.length + 1 = k then (FO (.fr x :: as) τ).nox else .no := id rfl
def eSp (r : R (List DD)) (cls : PySem.Str) (F : Fn) (h : DD → TS' → R DD) : R DD := r.bind fun xs τ1 => match xs with
  | [.obj C fs] => if C = cls then (F [.fr (.obj C fs)] τ1).nox.bind h else .no
  | _ => .no
def hLen (d : DD) (τ2 : TS') : R DD := match d with
  | .int n => if 0 ≤ n ∧ n < 2 ^ 63 then .ok (.int n) τ2 else .no
  | _ => .no
def hStr (d : DD) (τ2 : TS') : R DD := match d with
  | .str z => .ok (.str z) τ2
  | _ => .no
def hBool (d : DD) (τ2 : TS') : R DD := match d with
  | .int n => if 0 ≤ n ∧ n < 2 ^ 63 then .ok (.bl (n != 0)) τ2 else .no
  | _ => .no
@[simp] theorem ev_LenO : dLenO cls F r ρ τ = eSp (r ρ τ) cls F hLen := id rfl
@[simp] theorem ev_StrO : dStrO cls F r ρ τ = eSp (r ρ τ) cls F hStr := id rfl
@[simp] theorem ev_BoolO : dBoolO cls F r ρ τ = eSp (r ρ τ) cls F hBool := id rfl
@[simp] theorem eSp_ok {h : DD → TS' → R DD} : eSp (.ok [.obj cls fs] τ) cls F h = (F [.fr (.obj cls fs)] τ).nox.bind h := if_pos rfl
@[simp] theorem hLen_ok {i : Int} : hLen (.int i) τ = if 0 ≤ i ∧ i < 9223372036854775808 then .ok (.int i) τ else .no := id rfl
@[simp] theorem hBool_ok {i : Int} : hBool (.int i) τ = if 0 ≤ i ∧ i < 9223372036854775808 then .ok (.bl (i != 0)) τ else .no := id rfl
@[simp] theorem hStr_ok {z : PySem.Str} : hStr (.str z) τ = .ok (.str z) τ := id rfl
def eEqO2 (r : R DD) (neg : Bool) (cls : PySem.Str) (F : Fn) (x : DD) : R DD := r.bind fun y τ2 => match x with
  | .obj C fs => if C = cls ∧ sideY cls y = true then (toB (F [.fr (.obj C fs), .fr y] τ2)).bind fun r τ3 => .ok (.bl (xor neg r)) τ3 else .no
  | _ => .no
def eEqO1 (r : R DD) (neg : Bool) (cls : PySem.Str) (F : Fn) (b : DE) (ρ : PEnv) : R DD := r.bind fun x τ1 => eEqO2 (b ρ τ1) neg cls F x
@[simp] theorem ev_EqO {neg : Bool} : dEqO neg cls F a b ρ τ = eEqO1 (a ρ τ) neg cls F b ρ := by
  unfold dEqO eEqO1
  congr 1
  funext x τ1
  unfold eEqO2
  congr 1
  funext y τ2
  cases x <;> first | rfl | skip
  dsimp only
  rename_i C fs
  by_cases h : C = cls ∧ sideY cls y = true
  · rw [if_pos h, if_pos h]
    generalize F [.fr (.obj C fs), .fr y] τ2 = R0
    cases R0 with
    | ok d t => cases d <;> rfl
    | ex _ _ => rfl
    | no => rfl
  · rw [if_neg h, if_neg h]
@[simp] theorem eEqO1_ok {neg : Bool} : eEqO1 (.ok x τ) neg cls F b ρ = eEqO2 (b ρ τ) neg cls F x := id rfl
@[simp] theorem eEqO2_ok {neg : Bool} : eEqO2 (.ok y τ) neg cls F (.obj cls fs) = if sideY cls y = true then (toB (F [.fr (.obj cls fs), .fr y] τ)).bind fun r τ3 => .ok (.bl (xor neg r)) τ3 else .no := by
  simp only [eEqO2, R.bind_ok, true_and]
@[simp] theorem toB_ok {z : Bool} : toB (.ok (.bl z) τ) = .ok z τ := id rfl
def eEqR2 (r : R DD) (cls : PySem.Str) (F : Fn) (y : DD) : R DD := r.bind fun x τ2 => match x with
  | .obj C fs => if C = cls ∧ thing y = true then (toB (F [.fr (.obj C fs), .fr y] τ2)).bind fun r τ3 => .ok (.bl r) τ3 else .no
  | _ => .no
def eEqR1 (r : R DD) (cls : PySem.Str) (F : Fn) (b : DE) (ρ : PEnv) : R DD := r.bind fun y τ1 => eEqR2 (b ρ τ1) cls F y
@[simp] theorem ev_EqR : dEqR cls F a b ρ τ = eEqR1 (a ρ τ) cls F b ρ := id rfl
@[simp] theorem eEqR1_ok : eEqR1 (.ok y τ) cls F b ρ = eEqR2 (b ρ τ) cls F y := id rfl
@[simp] theorem eEqR2_ok : eEqR2 (.ok (.obj cls fs) τ) cls F y = if thing y = true then (toB (F [.fr (.obj cls fs), .fr y] τ)).bind fun r τ3 => .ok (.bl r) τ3 else .no := by
  simp only [eEqR2, R.bind_ok, true_and]
noncomputable def eInO2 (r : R DD) (neg : Bool) (cls : PySem.Str) (F : Fn) (x : DD) : R DD := r.bind fun y τ2 => match x, y with
  | .obj C fs, .lst ds => if C = cls then (inD cls F (.obj C fs) ds τ2).bind fun r τ3 => .ok (.bl (xor neg r)) τ3 else .no
  | _, _ => .no
noncomputable def eInO1 (r : R DD) (neg : Bool) (cls : PySem.Str) (F : Fn) (b : DE) (ρ : PEnv) : R DD := r.bind fun x τ1 => eInO2 (b ρ τ1) neg cls F x
@[simp] theorem ev_InO {neg : Bool} : dInO neg cls F a b ρ τ = eInO1 (a ρ τ) neg cls F b ρ := id rfl
@[simp] theorem eInO1_ok {neg : Bool} : eInO1 (.ok x τ) neg cls F b ρ = eInO2 (b ρ τ) neg cls F x := id rfl
@[simp] theorem eInO2_ok {neg : Bool} {ds : List DD} : eInO2 (.ok (.lst ds) τ) neg cls F (.obj cls fs) = (inD cls F (.obj cls fs) ds τ).bind fun r τ3 => .ok (.bl (xor neg r)) τ3 := if_pos rfl
@[simp] theorem inD_nil : inD cls F x [] τ = .ok false τ := id rfl
@[simp] theorem gIsO_obj : gIsO cls (.obj cls fs) = some (.bl true) := if_pos rfl
@[simp] theorem gIsO_non : gIsO cls .non = some (.bl false) := id rfl
@[simp] theorem gIsO_int {i : Int} : gIsO cls (.int i) = some (.bl false) := id rfl
@[simp] theorem gIsO_str {i : PySem.Str} : gIsO cls (.str i) = some (.bl false) := id rfl
@[simp] theorem gIsO_lst {i : List DD} : gIsO cls (.lst i) = some (.bl false) := id rfl
@[simp] theorem gIsO_tup {i : List DD} : gIsO cls (.tup i) = some (.bl false) := id rfl
@[simp] theorem side_obj : sideY cls (.obj cls fs) = true := decide_eq_true rfl
@[simp] theorem side_non : sideY cls .non = true := id rfl
@[simp] theorem side_int {i : Int} : sideY cls (.int i) = true := id rfl
@[simp] theorem side_str {i : PySem.Str} : sideY cls (.str i) = true := id rfl
@[simp] theorem side_lst {i : List DD} : sideY cls (.lst i) = true := id rfl
@[simp] theorem side_tup {i : List DD} : sideY cls (.tup i) = true := id rfl
@[simp] theorem th_non : thing .non = true := id rfl
@[simp] theorem th_int {i : Int} : thing (.int i) = true := id rfl
@[simp] theorem th_str {i : PySem.Str} : thing (.str i) = true := id rfl
@[simp] theorem th_lst {i : List DD} : thing (.lst i) = true := id rfl
@[simp] theorem th_tup {i : List DD} : thing (.tup i) = true := id rfl
@[simp] theorem gSlT_eq {ds : List DD} {lo hi : Option Int} : gSlT (.tup ds) lo hi = some (.tup (cutL ds lo hi)) := id rfl
@[simp] theorem gIsB_eq {p q : Bool} : gIsB (.bl p) (.bl q) = some (.bl (decide (p = q))) := id rfl
@[simp] theorem gLenRg1_eq {i : Int} : gLenRg1 (.int i) = if (i.toNat : Int) < 9223372036854775808 then some (.int i.toNat) else none := id rfl
def eDropApp (r : R OC) (ρ : PEnv) : R Ct := stE r ρ fun c τ1 => match c with
  | .lst xs => if xs.length < sizeLine then .ok (.nx ρ) τ1 else .no
  | _ => .no
@[simp] theorem ev_DropApp {φ : PEnv → TS' → R OC} : dDropApp φ ρ τ = eDropApp (φ ρ τ) ρ := id rfl
@[simp] theorem eDropApp_ok {xs : List DD} : eDropApp (.ok (.lst xs) τ) ρ = if xs.length < 16777216 then .ok (.nx ρ) τ else .no := by
  show (if xs.length < sizeLine then _ else _) = _
  rfl
@[simp] theorem ev_IEnd : dIEnd cls ρ τ fs = .ok (.obj cls fs) τ := id rfl
def eISet (r : R DD) (f : PySem.Str) (t : DI') (ρ : PEnv) (fs : List (PySem.Str × DD)) : R DD := r.bind fun d τ1 => if fs.length < 1000 then t ρ τ1 (putD f d fs) else .no
@[simp] theorem ev_ISet {t : DI'} : dISet f e t ρ τ fs = eISet (e ρ τ) f t ρ fs := id rfl
@[simp] theorem eISet_ok {t : DI'} : eISet (.ok d τ) f t ρ fs = if fs.length < 1000 then t ρ τ (putD f d fs) else .no := id rfl
@[simp] theorem putD_nil : putD f d [] = [(f, d)] := id rfl
@[simp] theorem fixR_ok : fixR τ' (.ok d τ) = .ok d (fixT τ' τ) := id rfl
@[simp] theorem bodyI2_ok {t : DI'} {z : Addr} : bodyI2 t z τ ρ τ' (some (some (.fr (.raw z)))) = fixR τ (t ρ τ' []) := if_pos rfl
@[simp] theorem fixT_same : fixT τ τ = τ := by cases τ <;> rfl
end
mutual
theorem Rp.func {K : PySem.W.Frag} {cm : CM} {G : GH} : ∀ {v : V} {d e : DD}, Rp K cm G v d → Rp K cm G v e → plainD d = true → plainD e = true → d = e
  | _, _, _, .non, .non, _, _ => rfl
  | _, _, _, .bl _, .bl _, _, _ => rfl
  | _, _, _, .int _, .int _, _, _ => rfl
  | _, _, _, .str _, .str _, _, _ => rfl
  | _, _, _, .lst h r, e, p, q => by
    cases e with
    | lst h' r' => rw [h] at h'; cases h'; rw [RpA.func r r' p q]
    | tup h' _ => rw [h] at h'; cases h'
    | dic h' _ => rw [h] at h'; cases h'
    | obj h' _ => rw [h] at h'; cases h'
    | exc h' _ _ _ _ => cases q
    | raw _ => cases q
    | ptr _ => cases q
    | tux _ _ _ => cases q
  | _, _, _, .tup h r, e, p, q => by
    cases e with
    | tup h' r' => rw [h] at h'; cases h'; rw [RpA.func r r' p q]
    | lst h' _ => rw [h] at h'; cases h'
    | dic h' _ => rw [h] at h'; cases h'
    | obj h' _ => rw [h] at h'; cases h'
    | exc h' _ _ _ _ => cases q
    | raw _ => cases q
    | ptr _ => cases q
    | tux _ _ _ => cases q
  | _, _, _, .dic h r, e, p, q => by cases p
  | _, _, _, .obj h r, e, p, q => by cases p
  | _, _, _, .exc _ _ _ _ _, e, p, q => by cases p
  | _, _, _, .raw _, e, p, q => by cases p
  | _, _, _, .ptr _, e, p, q => by cases p
  | _, _, _, .tux _ _ _, e, p, q => by cases p
theorem RpA.func {K : PySem.W.Frag} {cm : CM} {G : GH} : ∀ {v : List V} {d e : List DD}, RpA K cm G v d → RpA K cm G v e → plainDs d = true → plainDs e = true → d = e
  | _, _, _, .nil, .nil, _, _ => rfl
  | _, _, _, .cons h r, .cons h' r', p, q => by
    unfold plainDs at p q
    rw [Bool.and_eq_true] at p q
    rw [Rp.func h h' p.1 q.1, RpA.func r r' p.2 q.2]
end
def plainFs : List (PySem.Str × DD) → Bool
  | [] => true
  | (_, d) :: r => plainD d && plainFs r
theorem RpF.func {K : PySem.W.Frag} {cm : CM} {G : GH} : ∀ {v : List (PySem.Str × V)} {d e : List (PySem.Str × DD)}, RpF K cm G v d → RpF K cm G v e → plainFs d = true → plainFs e = true → d = e
  | _, _, _, .nil, .nil, _, _ => rfl
  | _, _, _, .cons h r, .cons h' r', p, q => by
    unfold plainFs at p q
    rw [Bool.and_eq_true] at p q
    rw [Rp.func h h' p.1 q.1, RpF.func r r' p.2 q.2]
end Np
set_option Elab.async false
set_option linter.all false
set_option maxRecDepth 100000
namespace Np
open PySem PySem.Spec PyProof.Rows L2
section
variable {a b : DA} {ρ : PEnv} {τ : TS'} {as : List DD}
def eZpS1 (r : R (List DD)) (b : DA) (ρ : PEnv) : R (List DD) := r.bind fun x τ1 => (b ρ τ1).bind fun y τ2 => match x, y with
  | [.lst ds, .lst es], [.bl true] => if ds.length = es.length then .ok (zipD ds es) τ2 else .no
  | _, _ => .no
def eZpS2 (r : R (List DD)) (x : List DD) : R (List DD) := r.bind fun y τ2 => match x, y with
  | [.lst ds, .lst es], [.bl true] => if ds.length = es.length then .ok (zipD ds es) τ2 else .no
  | _, _ => .no
@[simp] theorem ev_IZipS : dIZipS a b ρ τ = eZpS1 (a ρ τ) b ρ := id rfl
@[simp] theorem eZpS1_ok : eZpS1 (.ok as τ) b ρ = eZpS2 (b ρ τ) as := id rfl
@[simp] theorem eZpS2_ok {ds es : List DD} : eZpS2 (.ok [.bl true] τ) [.lst ds, .lst es] = if ds.length = es.length then .ok (zipD ds es) τ else .no := id rfl
end
section
variable {ρ : PEnv} {τ : TS'} {a : DE} {F : Fn} {cls : PySem.Str} {fs : List (PySem.Str × DD)}
def eDropClr (r : R OC) (ρ : PEnv) : R Ct := stE r ρ fun c τ1 => match c with
  | .lst _ => .ok (.nx ρ) τ1
  | _ => .no
@[simp] theorem ev_DropClr {φ : PEnv → TS' → R OC} : dDropClr φ ρ τ = eDropClr (φ ρ τ) ρ := id rfl
@[simp] theorem eDropClr_ok {xs : List DD} : eDropClr (.ok (.lst xs) τ) ρ = .ok (.nx ρ) τ := id rfl
def hTru (d : DD) (τ2 : TS') : R Bool := match d with
  | .int n => if 0 ≤ n ∧ n < 2 ^ 63 then .ok (n != 0) τ2 else .no
  | _ => .no
def eTruO (r : R DD) (cls : PySem.Str) (F : Fn) : R Bool := r.bind fun x τ1 => match x with
  | .obj C fs => if C = cls then (F [.fr (.obj C fs)] τ1).nox.bind hTru else .no
  | _ => .no
@[simp] theorem ev_TruO : dTruO cls F a ρ τ = eTruO (a ρ τ) cls F := id rfl
@[simp] theorem eTruO_ok : eTruO (.ok (.obj cls fs) τ) cls F = (F [.fr (.obj cls fs)] τ).nox.bind hTru := if_pos rfl
@[simp] theorem hTru_ok {i : Int} : hTru (.int i) τ = if 0 ≤ i ∧ i < 9223372036854775808 then .ok (i != 0) τ else .no := id rfl
end
end Np
set_option Elab.async false
set_option linter.all false
set_option maxRecDepth 100000
namespace Np
open PySem PySem.Spec PyProof.Rows L2
section
variable {ρ : PEnv} {τ τ' : TS'} {e : DE} {ps qs : DPs} {i k n m : Nat} {FI : FnI} {g : List PV → List PV → List PV} {f : PySem.Str} {fs : List (PySem.Str × DD)} {d : DD}
def eISetV (r : R DD) (f : PySem.Str) (t : DI') (ρ : PEnv) (fs : List (PySem.Str × DD)) : R DD := r.bind fun d τ1 => if flatD d = true ∧ fs.length < 1000 then t ρ τ1 (putD f d fs) else .no
@[simp] theorem ev_ISetV {t : DI'} : dISetV f e t ρ τ fs = eISetV (e ρ τ) f t ρ fs := id rfl
@[simp] theorem eISetV_ok {t : DI'} : eISetV (.ok d τ) f t ρ fs = if flatD d = true ∧ fs.length < 1000 then t ρ τ (putD f d fs) else .no := id rfl
@[simp] theorem flatD_int {j : Int} : flatD (.int j) = true := id rfl
@[simp] theorem flatD_str {j : PySem.Str} : flatD (.str j) = true := id rfl
@[simp] theorem flatD_bl {j : Bool} : flatD (.bl j) = true := id rfl
@[simp] theorem flatD_non : flatD .non = true := id rfl
def eISetL (r : R OC) (f : PySem.Str) (t : DI') (ρ : PEnv) (fs : List (PySem.Str × DD)) : R DD := r.bind fun c τ1 => match c with
  | .lst ys => if ys.all flatD = true ∧ fs.length < 1000 then t ρ τ1 (putD f (.lst ys) fs) else .no
  | _ => .no
@[simp] theorem ev_ISetL {a : PEnv → TS' → R OC} {t : DI'} : dISetL f a t ρ τ fs = eISetL (a ρ τ) f t ρ fs := id rfl
@[simp] theorem eISetL_ok {ys : List DD} {t : DI'} : eISetL (.ok (.lst ys) τ) f t ρ fs = if ys.all flatD = true ∧ fs.length < 1000 then t ρ τ (putD f (.lst ys) fs) else .no := id rfl
noncomputable def eMkB (o : Option (Option PV)) (i k n m : Nat) (F : FnI) (g : List PV → List PV → List PV) (a b : DPs) (ρ : PEnv) (τ : TS') : R DD := match o with
  | some (some (.ow c)) => match dMkN' k n m F g a b (bor i c ρ) none with
    | .ok d _ => .ok d τ
    | _ => .no
  | _ => .no
def eMkB2 (r : R DD) (τ : TS') : R DD := match r with
  | .ok d _ => .ok d τ
  | _ => .no
@[simp] theorem ev_MkB : dMkB i k n m FI g ps qs ρ τ = eMkB ρ[i]? i k n m FI g ps qs ρ τ := id rfl
@[simp] theorem eMkB_ok {c : OC} : eMkB (some (some (.ow c))) i k n m FI g ps qs ρ τ = eMkB2 (dMkN' k n m FI g ps qs (bor i c ρ) none) τ := id rfl
@[simp] theorem eDrop_ex {x : Ex} : eDrop (.ex x τ) ρ = .ok (.xc x ρ) τ := id rfl
@[simp] theorem eMkB2_ok : eMkB2 (.ok d τ') τ = .ok d τ := id rfl
end
end Np
set_option Elab.async false
set_option linter.all false
set_option maxRecDepth 100000
namespace Np
open PySem PySem.Spec PyProof.Rows L2
section
variable {ρ : PEnv} {τ τ' : TS'} {e : DE} {i j : Nat}
def ePopA2 (r : Option (Nat × DD)) (xs : List DD) (i j : Nat) (ρ : PEnv) (τ : TS') : R Ct := match r with
  | some (k, y) => .ok (.nx ((ρ.set i (some (.ow (.lst (xs.eraseIdx k))))).set j (some (.fr y)))) τ
  | none => .no
def ePopA (o : Option (Option PV)) (r : R DD) (i j : Nat) (ρ : PEnv) : R Ct := match o with
  | some (some (.ow (.lst xs))) => stE r ρ fun d τ1 => match d with
    | .int n => ePopA2 (popD xs n) xs i j ρ τ1
    | _ => .no
  | _ => .no
@[simp] theorem ev_PopA : dPopA i j e ρ τ = ePopA ρ[i]? (e ρ τ) i j ρ := id rfl
@[simp] theorem ePopA_ok {xs : List DD} {n : Int} : ePopA (some (some (.ow (.lst xs)))) (.ok (.int n) τ) i j ρ = ePopA2 (popD xs n) xs i j ρ τ := id rfl
@[simp] theorem ePopA2_ok {k : Nat} {y : DD} {xs : List DD} : ePopA2 (some (k, y)) xs i j ρ τ = .ok (.nx ((ρ.set i (some (.ow (.lst (xs.eraseIdx k))))).set j (some (.fr y)))) τ := id rfl
@[simp] theorem gWords_eq {z : PySem.Str} : gWords z [] = if z.length + 2 ≤ 16777216 then some (.lst ((Txt.words z).map DD.str)) else none := by
  show (if z.length + 2 ≤ sizeLine then _ else _) = _
  rfl
end
end Np
set_option Elab.async false
set_option linter.all false
set_option maxRecDepth 100000
set_option maxHeartbeats 4000000
namespace Np
open PySem PySem.Spec PyProof.Rows L2
end Np
set_option Elab.async false
set_option linter.all false
set_option maxRecDepth 100000
set_option maxHeartbeats 4000000
namespace Np
open PySem PySem.Spec PyProof.Rows L2
def keysD (F : Fn) : List DD → Option (List PyData)
  | [] => some []
  | d :: ds => match F [.fr d] none with
    | .ok kd _ => match toPy kd, keysD F ds with
      | some p, some ps => some (p :: ps)
      | _, _ => none
    | _ => none
def keysOk (ps : List PyData) : Prop := ∀ p ∈ ps, (∀ q ∈ ps, PySem.W.alike p q = true) ∧ p.depth ≤ 64 ∧ p ≠ .none
def bestD (ps : List PyData) : Nat := argBest (fun i j => PySem.W.dataLt (ps.getD i .none) (ps.getD j .none)) (ps.length - 1)
open Classical in
noncomputable def gMinK (F : Fn) (ds : List DD) : Option DD := match keysD F ds with
  | some ps => if 0 < ds.length ∧ keysOk ps then ds[bestD ps]? else none
  | none => none
noncomputable def dMinK (F : Fn) (a : DA) : DE := fun ρ τ => (a ρ τ).bind fun xs τ1 => match xs with
  | [.lst ds] => R.of τ1 (gMinK F ds)
  | _ => .no
end Np
set_option Elab.async false
set_option linter.all false
set_option maxRecDepth 100000
set_option maxHeartbeats 4000000
namespace Np
open PySem PySem.Spec PyProof.Rows L2
section
variable {W : Wp} {Wx : L2.St → XK} {tr : TA} {δr : DA}
def dIZipA (a : DA) : DI := fun ρ τ => (a ρ τ).bind fun x τ1 => match x with
  | [.lst ds, .lst es] => .ok (zipD ds es) τ1
  | [.tup ds, .tup es] => .ok (zipD ds es) τ1
  | _ => .no
end
end Np
set_option Elab.async false
set_option linter.all false
set_option maxRecDepth 100000
set_option maxHeartbeats 4000000
namespace Np
open PySem PySem.Spec PyProof.Rows L2
section
variable {W : Wp} {Wx : L2.St → XK}
def clrI (i : Nat) (r : R Ct) : R Ct := match r with
  | .ok (.nx ρ) τ => .ok (.nx (ρ.set i none)) τ
  | .ok (.bk ρ) τ => .ok (.bk (ρ.set i none)) τ
  | .ok (.ct ρ) τ => .ok (.ct (ρ.set i none)) τ
  | .ok (.rt d) τ => .ok (.rt d) τ
  | _ => .no
def dTryH (exm : Str → Option Bool) (i : Nat) (δ δh : DS) : DS := fun ρ τ => match δ ρ τ with
  | .ok (.xc x ρ1) τ1 => match exm x.cls with
    | some true => clrI i (δh (ρ1.set i (some (.fr (.exc x.cls x.fs)))) τ1)
    | some false => .ok (.xc x ρ1) τ1
    | none => .no
  | r => r
end
end Np
set_option Elab.async false
set_option linter.all false
set_option maxRecDepth 100000
set_option maxHeartbeats 4000000
namespace Np
open PySem PySem.Spec PyProof.Rows L2
set_option maxHeartbeats 1000000 in
theorem meets_enumerate_new1 {v : Value} {o : Obj} {H : Heap → Prop} (B : Begins v o H) :
    Meets (Builtin.«enumerate.__new__» ⟨[.type "enumerate", v], []⟩) (fun _ R s => H s.heap ∧
      R (.ok (.ret (.ref (s.heap.push o).objs.size))) { s with heap := (s.heap.push o).push { cls := .type "enumerate", data := .fields #[.none, .bool false, .ref s.heap.objs.size, rawInt 0, .none, .none] } }) :=
  .of_wp fun prog w A R s h => by
    obtain ⟨hp, g, d, tk, os⟩ := s; obtain ⟨h1, h⟩ := h
    have hsub := sub_enumerate
    have q1 : ∀ {A' : Around} {E : Value → Shared → Prop} {Q : Value → Shared → Prop}, Q (.ref hp.objs.size) ⟨hp.push o, g, d, tk, os⟩ → wpAny (model prog w) A' (pyIter v) Q E ⟨hp, g, d, tk, os⟩ :=
      fun q => B.iter prog w _ _ ⟨hp, g, d, tk, os⟩ _ h1 q
    wp_walk
    refine wpAny_stack_any fun st => wpAny_pure ?_
    split
    · rename_i c _ _ _ _ _
      cases (c == Value.type "enumerate")
      · wp_walk using q1
        exact ⟨_, rfl, h⟩
      · wp_walk using q1
        exact ⟨_, rfl, h⟩
    · wp_walk using q1
      exact ⟨_, rfl, h⟩
theorem enum_begins1 {prog : Program} {w : World} {A : Around} {E : Value → Shared → Prop} {s : Shared} {v : Value} {o : Obj} {H : Heap → Prop} {Q : Value → Shared → Prop} (B : Begins v o H) (h1 : H s.heap)
    (h : ∀ h', IsEnum h' (s.heap.objs.size + 1) s.heap.objs.size 0 .none → h'.get? s.heap.objs.size = some o → h'.objs.size = s.heap.objs.size + 2 →
      (∀ b o, s.heap.get? b = some o → h'.get? b = some o) → Q (.ref (s.heap.objs.size + 1)) { s with heap := h' }) :
    wpAny (model prog w) A (call (.type "enumerate") [v]) Q E s := by
  refine callType_new F.called_enumerate (by decide) (F.typeCall_enumerate_1 _) (F.newCall_enumerate_1 _) (fun obj => F.args_object_init_2 obj _) F.entry_enumerate_new
    (meets_enumerate_new1 B) ⟨h1, ?_⟩
  have hz : (s.heap.push o).objs.size = s.heap.objs.size + 1 := Heap.size_push ..
  show _ ∧ _
  rw [hz]
  have he : IsEnum ((s.heap.push o).push { cls := .type "enumerate", data := .fields #[.none, .bool false, .ref s.heap.objs.size, rawInt 0, .none, .none] }) (s.heap.objs.size + 1) s.heap.objs.size 0 .none := by
    have := Heap.get?_push_size (s.heap.push o) (o := { cls := .type "enumerate", data := .fields #[.none, .bool false, .ref s.heap.objs.size, rawInt 0, .none, .none] }) rfl
    rw [hz] at this; exact this
  refine ⟨⟨_, he, rfl⟩, h _ he (Heap.get?_push_of_some _ (Heap.get?_push_size _ B.free)) (by rw [Heap.size_push, hz]) fun b o x => Heap.get?_push_of_some _ (Heap.get?_push_of_some _ x)⟩
def IteT (K : PySem.W.Frag) (a : Addr) : It :=
  ⟨fun i H => ∃ (xs : List V) (x : V), SqT K H a xs ∧ xs[i]? = some x, fun i H v H' => ∃ T x, v = .ref T ∧ H T = none ∧ H' = upd H T (.tup [.int ((i : Nat)), x]) ∧ ∀ xs, SqT K H a xs → xs[i]? = some x, fun i H => ∃ xs : List V, SqT K H a xs ∧ xs.length = i⟩
theorem turn_enumT {P : Program} {w : World} {K : PySem.W.Frag} {elts : List Expr} {kk : Nat} {tpos : Pos} (a e it : Addr) :
    Turn P w K (.Tuple elts kk tpos) (IteT K a) [e, it] e (fun i h => (∃ old, IsEnum h e it ((i : Nat)) old) ∧ h.IsTupleIter it a i ∧ e ≠ it ∧ a ≠ it ∧ e ≠ a) where
  mem := by simp
  obj := fun i h st b hb => by
    obtain ⟨⟨old, he⟩, ⟨o, ho, hc, hd⟩, _⟩ := st
    have e' : b = e ∨ b = it := by simpa using hb
    rcases e' with z | z
    · rw [z]; exact ⟨_, he, fun v q => nomatch q⟩
    · rw [z]; exact ⟨o, ho, fun v q => by rw [hd] at q; cases q⟩
  keep := fun i h h' st k => by
    obtain ⟨⟨old, he⟩, hi, hne⟩ := st
    exact ⟨⟨old, k e (by simp) _ he⟩, hi.at fun o q => k it (by simp) o q, hne⟩
  item := by
    intro X hP hw hK hc i pins s σ H E I hf st hg
    subst hP hw hK
    obtain ⟨⟨old, he⟩, hit, hne, hai, hea⟩ := st
    obtain ⟨xs, x, hq, hx⟩ := hg
    obtain ⟨its, rv, p, hz⟩ := I.tuple hq
    obtain ⟨u, hu, ru⟩ := rv.get hx
    have hel : e < s.heap.objs.size := Heap.lt_size he
    have hil : it < s.heap.objs.size := by obtain ⟨_, q, _⟩ := hit; exact Heap.lt_size q
    have hlt : i < its.toArray.size := by have := (List.getElem?_eq_some_iff.mp hu).1; simpa using this
    have D := Draws.tuple (prog := X.prog) (w := X.w) (A := X.A.in1) (I.ok.hd hc) it a hai its.toArray
    refine wpAny_pyNext_enum_itemC D he ⟨hit, p⟩ hlt hne (by simp only [List.mem_cons, List.not_mem_nil, or_false]; exact fun z => z.elim hne hea) fun x' h' tk hP ho hs' hT hsz hk => ?_
    have hxu : x' = u := by
      have h1 : its.toArray[i]? = some u := by simpa using hu
      rw [h1] at hP
      exact (Option.some.inj hP).symm
    subst hxu
    refine ⟨_, rfl, wpAny_letOwnedTupleGo_enum (s := { s with heap := h', toks := tk + 1 }) ho fun h'' he' sb => ?_⟩
    have hT2 : h''.get? s.heap.objs.size = some { cls := .type "tuple", data := .seq #[.int ((i : Nat)) tk, x'] } := (sb.2 _ (Nat.ne_of_gt hel)).trans hT
    have new : ObjOk X.prog X.w (upd H s.heap.objs.size (.tup [.int ((i : Nat)), x])) h'' s.heap.objs.size (.tup [.int ((i : Nat)), x]) :=
      ⟨by show 2 ≤ sizeLine; decide, [.int ((i : Nat)) tk, x'], .cons ⟨_, rfl⟩ (.cons ru .nil), ⟨_, hT2, rfl, _, rfl⟩⟩
    have I1 : Inv X pins σ (upd H s.heap.objs.size (.tup [.int ((i : Nat)), x])) { s with heap := h'', toks := tk + 1 } :=
      I.turnedNew (ch := [e, it]) (fun b ob hb q => (sb.2 b (fun z => hb (by simp [z]))).trans (hk b ob (fun z => hb (by simp [z])) (fun z => hb (by simp [z])) q)) hf (Nat.le_refl _) new
    refine ⟨.ref s.heap.objs.size, _, I1, rfl, ⟨_, x, rfl, I.hok.fresh (Nat.le_refl _), rfl, fun ys hy => by rw [I.tuple_inj hy hq]; exact hx⟩, ⟨⟨x', ?_⟩, hs'.1.at fun o q => (sb.2 it (Ne.symm hne)).trans q, hne, hai, hea⟩, fun b hb => ?_⟩
    · have e1 : ((i + 1 : Nat) : Int) = (i : Int) + 1 := by omega
      rw [e1]; exact he'
    · have hb' : b < s.heap.objs.size := by
        have e' : b = e ∨ b = it := by simpa using hb
        rcases e' with z | z
        · rw [z]; exact hel
        · rw [z]; exact hil
      rw [upd_ne (Nat.ne_of_lt hb')]
      exact (hf b hb).1
  done := by
    intro X hP hw hK hc i pins s σ H E I hf st hg
    subst hP hw hK
    obtain ⟨⟨old, he⟩, hit, hne, hai, hea⟩ := st
    obtain ⟨xs, hq, hx⟩ := hg
    obtain ⟨its, rv, p, hz⟩ := I.tuple hq
    obtain ⟨f0, f1, f2, f3, f4, f5⟩ := hf it (by simp)
    have hl := rv.length
    have D := Draws.tuple (prog := X.prog) (w := X.w) (A := X.A.in1) (I.ok.hd hc) it a hai its.toArray
    have hi : i = its.toArray.size := by simp; omega
    subst hi
    exact wpAny_pyNext_enum_endD D he ⟨hit, p⟩ fun h' eb => ⟨rfl, I.turned (t' := s.toks) (fun b o hb q => eb b o hb q) f0 f1 f3 f4 f5⟩
  self := fun A i s Q E st h => by
    obtain ⟨⟨_, he⟩, _⟩ := st
    exact wpAny_pyIter_enum he h
def iEnumT (K : PySem.W.Frag) (ta : TA) : TI := fun σ H R => ta σ H fun vs H1 => ∃ a xs, vs = [.ref a] ∧ SqT K H1 a xs ∧ R (IteT K a) H1
theorem pi_enumT {X : Cx} (K : PySem.W.Frag) {e : Expr} {ta : TA} {p pos tpos : Pos} {elts : List Expr} {kk : Nat} (hg : Gl X "enumerate") (hm : X.mg "enumerate" = none) (ha : PA X [e] ta)
    (hs : starEach [e] X.env = [(false, eval e X.env)] := by rfl) (hK : X.K = K := by rfl) :
    PI X (.Tuple elts kk tpos) (.Call (.Name "enumerate" p) [e] [] pos) (iEnumT K ta) := by
  subst hK
  refine ⟨fun pins s σ H R I h => ?_⟩
  refine Call_ (ld_blt I hg hm PyProof.Rows.boot_enumerate (PyProof.Rows.callWith_type1 (thn (ha.run pos pins s σ H _ I h) fun us s1 hh => ?_) hs))
  obtain ⟨vs, H1, I1, r1, a, xs, rfl, hq, q⟩ := hh
  cases r1 with | cons r rr =>
  cases rr
  cases r
  obtain ⟨its, rv, p', hz⟩ := I1.tuple hq
  have hal : a < s1.heap.objs.size := by
    obtain ⟨o, ho, _⟩ := id p'
    exact Heap.lt_size ho
  refine enum_begins1 (begins_tuple a its.toArray) p' fun h' he hit hsz hk => wpAny_pyIter_enum he ?_
  have I3 : Inv X pins σ H1 { s1 with heap := h' } := I1.kept (t' := s1.toks) hk
  refine ⟨s1.heap.objs.size + 1, [s1.heap.objs.size + 1, s1.heap.objs.size], _, _, H1, rfl, I3, turn_enumT a (s1.heap.objs.size + 1) s1.heap.objs.size, ⟨⟨.none, by simpa using he⟩, ⟨_, hit, rfl, rfl⟩, Nat.succ_ne_self _, Nat.ne_of_lt hal, Nat.ne_of_gt (Nat.lt_succ_of_lt hal)⟩, fun b hb => ?_, q⟩
  have e' : b = s1.heap.objs.size + 1 ∨ b = s1.heap.objs.size := by simpa using hb
  have hle : s1.heap.objs.size ≤ b := by
    rcases e' with z | z
    · rw [z]; exact Nat.le_add_right _ _
    · rw [z]; exact Nat.le_refl _
  exact I1.fpOk hle (I1.hok.fresh hle)
section
variable {W : Wp} {Wx : L2.St → XK} {tr tk : TA} {δr δk : DA}
theorem walk_enumT {K : PySem.W.Frag} {a : Addr} {xs : List V} : Walk (IteT K a) xs.length (fun H => SqT K H a xs) (YPair (fun i => some (.int (i : Nat))) (fun i => xs[i]?)) := by
  refine ⟨fun i _ hi q => ⟨xs, xs[i], q, by simp [hi]⟩, fun _ q => ⟨xs, q, rfl⟩, fun i H v H' _ q y => ?_⟩
  obtain ⟨T, x, h1, h2, h3, h4⟩ := y
  exact ⟨T, .int (i : Nat), x, h1, h2, h3, rfl, h4 xs q⟩
def dIEnumT (a : DA) : DI := fun ρ τ => (a ρ τ).bind fun x τ1 => match x with
  | [.tup ds] => .ok (enumD ds) τ1
  | _ => .no
theorem di_enumT (hr : DnA W Wx tr δr) : DnI W Wx (iEnumT W.K tr) (dIEnumT δr) := fun tp G H σ ρ τ Q E P =>
  hr _ _ _ _ _ _ _ E (P.bind fun a τ1 x G1 H1 e1 E1 r1 P1 => by
    split at P1
    · rename_i ds
      cases r1 with | cons r rs =>
      cases rs
      cases r with | tup h r =>
      refine ⟨_, _, rfl, SqT.of (E1.g _ _ h), P1 _ G1 H1 Ext.refl E1 (ItR.pair (walk_enumT (K := W.K)) (fun H s => SqT.of (s _ _ h)) (by unfold enumD; rw [List.length_mapIdx, r.length]) fun i d hd u v e1 e2 => ?_)⟩
      unfold enumD at hd
      rw [List.getElem?_mapIdx] at hd
      obtain ⟨c, hc, rfl⟩ := Option.map_eq_some_iff.mp hd
      obtain ⟨y, hy, ry⟩ := r.get hc
      cases e1
      rw [hy] at e2
      cases e2
      exact ⟨_, _, rfl, .int _, ry⟩
    · exact P1.elim)
end
end Np
set_option Elab.async false
set_option linter.all false
set_option maxRecDepth 100000
set_option maxHeartbeats 4000000
namespace Np
open PySem PySem.Spec PyProof.Rows L2
def gMinD (ds : List DD) : Option DD := match ints? ds with
  | some [] => some .non
  | some (n :: ns) => some (.int (minL n ns))
  | none => none
def dMinD (a : DA) : DE := fun ρ τ => (a ρ τ).bind fun xs τ1 => match xs with
  | [.lst ds] => R.of τ1 (gMinD ds)
  | _ => .no
end Np
set_option Elab.async false
set_option linter.all false
set_option maxRecDepth 100000
set_option maxHeartbeats 4000000
namespace Np
open PySem PySem.Spec PyProof.Rows L2 LamX
end Np
set_option Elab.async false
set_option linter.all false
set_option maxRecDepth 100000
set_option maxHeartbeats 4000000
namespace Np
open PySem PySem.Spec PyProof.Rows L2 LamX
end Np
set_option Elab.async false
set_option linter.all false
set_option maxRecDepth 100000
set_option maxHeartbeats 4000000
namespace Np
open PySem PySem.Spec PyProof.Rows L2 LamX
/-- what the making leaves: only the table at P has grown -/
structure LamMade (T : List (Addr × Str)) (P : Addr) (H H' : Hp) : Prop where
  t : Tabs T H'
  k : ∀ b o, b ≠ P → H b = some o → H' b = some o
  x : ∀ b, H b ≠ none → H' b ≠ none
  p : ∀ o, H P = some o → o.tb = true
  m : ∃ q, (P, q) ∈ T
end Np
set_option Elab.async false
set_option linter.all false
set_option maxRecDepth 100000
set_option maxHeartbeats 4000000
namespace Np
open PySem PySem.Spec PyProof.Rows L2 LamX
section
variable {W : Wp} {Wx : L2.St → XK} {ta : TA} {δa : DA} {tb : TE} {δb : DE}
theorem LamMade.ext {P : Addr} {G : GH} {H H' : Hp} (M : LamMade W.T P H H') (g : SB W G H) : Ext none G H G H' ∧ SB W G H' := by
  have nP : ∀ b o, o.tb = false → H b = some o → b ≠ P := fun b o t e z => by
    have := M.p o (by rw [← z]; exact e)
    rw [t] at this
    cases this
  obtain ⟨q, hq⟩ := M.m
  exact ⟨⟨GS.refl _, fun p o _ t e => M.k p o (nP p o t e) e, fun _ _ _ h => h, M.x, fun _ => .inl, fun _ => rfl⟩, fun b o e => M.k b o (fun z => by rw [z, g.n _ hq] at e; cases e) (g.s b o e), M.t, g.n⟩
end
end Np
set_option Elab.async false
set_option linter.all false
set_option maxRecDepth 100000
set_option maxHeartbeats 4000000
namespace Np
open PySem PySem.Spec PyProof.Rows L2 LamX
/-- the law's promise; the tables are empty -/
def spLT (K : PySem.W.Frag) (T : List (Addr × Str)) : Sp := fun vs H Q E => spL K vs H Q E ∧ ∀ p ∈ T, H p.1 = some (.tbl #[])
end Np
set_option Elab.async false
set_option linter.all false
set_option maxRecDepth 100000
set_option maxHeartbeats 4000000
namespace Np
open PySem PySem.Spec PyProof.Rows L2 LamX
end Np
set_option Elab.async false
set_option linter.all false
set_option maxRecDepth 100000
set_option maxHeartbeats 4000000
namespace Np
open PySem PySem.Spec PyProof.Rows L2
end Np
set_option Elab.async false
set_option linter.all false
set_option maxRecDepth 100000
set_option maxHeartbeats 4000000
namespace Np
open PySem PySem.Spec PyProof.Rows L2
def gEqNil (ng : Bool) : DD → DD → Option DD
  | .lst xs, .lst [] => some (.bl (if ng = true then !xs.isEmpty else xs.isEmpty))
  | _, _ => none
section
variable {W : Wp}
@[simp] theorem gEqNil_eq {xs : List DD} {ng : Bool} : gEqNil ng (.lst xs) (.lst []) = some (.bl (if ng = true then !xs.isEmpty else xs.isEmpty)) := id rfl
end
end Np
set_option Elab.async false
set_option linter.all false
set_option maxRecDepth 100000
set_option maxHeartbeats 4000000
namespace Np
open PySem PySem.Spec PyProof.Rows L2
section
variable {W : Wp} {Wx : L2.St → XK} {tp0 tp tp' : Option Addr} {G0 G G' : GH} {H0 H H' : Hp} {σ : L2.St} {ρ : PEnv} {τ τ' : TS'} {D : Ends} {te tk tx : TE} {ta : TA} {δe δk δx : DE} {δa : DA}
theorem GS.ads (G : GH) (p : Addr) : GS G ⟨G.hp, G.ads ++ [p]⟩ := ⟨Same.refl _, List.prefix_append _ _⟩
/-- how the tape lies does not hang on the store -/
abbrev StW (W : Wp) : Prop := ∀ (t : Tau) (st : List Nd) (c : Addr), W.tk { t with st := st } c = W.tk t c
/-- a new thing -/
theorem EnvV.newM {a p : Addr} {o : HO} {t : Tau} {nd : Nd} (hW : StW W) (E : EnvV W (some a) G H σ ρ (some t)) (n : H p = none) (h : NdR W ⟨G.hp, G.ads ++ [p]⟩ (upd H p o) p nd) :
    Ext (some a) G H ⟨G.hp, G.ads ++ [p]⟩ (upd H p o) ∧ EnvV W (some a) ⟨G.hp, G.ads ++ [p]⟩ (upd H p o) σ ρ (some { t with st := t.st ++ [nd] }) ∧ (⟨G.hp, G.ads ++ [p]⟩ : GH).ads[t.st.length]? = some p := by
  have t0 : TapeR W G H a t := E.t
  have gp : G.hp p = none := E.g.free n
  have pa : p ∉ G.ads := fun z => by
    obtain ⟨u, hu, _⟩ := t0.s.nt p z
    rw [n] at hu
    cases hu
  have ap : a ≠ p := fun z => by
    obtain ⟨u, hu, _⟩ := t0.n
    rw [z, n] at hu
    cases hu
  have sn : Same H (upd H p o) := same_new n
  have gs : GS G ⟨G.hp, G.ads ++ [p]⟩ := ⟨Same.refl _, List.prefix_append _ _⟩
  have sb0 := E.g.trans sn
  have sb : SB W ⟨G.hp, G.ads ++ [p]⟩ (upd H p o) := ⟨sb0.s, sb0.t, sb0.n⟩
  have ex : Ext (some a) G H ⟨G.hp, G.ads ++ [p]⟩ (upd H p o) := ⟨gs, fun q u _ _ hq => sn q u hq, fun q _ _ hg => hg, fun q hq => by
    cases z : H q with
    | none => exact (hq z).elim
    | some u => rw [sn q u z]; simp, fun q hq => by
    rcases List.mem_append.mp hq with hq | hq
    · exact .inl hq
    · exact .inr (by rw [List.mem_singleton.mp hq]; exact n), fun z => (nomatch z)⟩
  have hl := t0.s.l
  refine ⟨ex, E.ext ex sb (show TapeR W _ _ a _ from ⟨t0.g, ?_, ?_, ?_⟩), by show (G.ads ++ [p])[t.st.length]? = some p; rw [hl]; simp⟩
  · obtain ⟨c, h1, h2⟩ := t0.c
    exact ⟨c, h1, by rw [hW]; exact sn a _ h2⟩
  · obtain ⟨u, h1, h2⟩ := t0.n
    exact ⟨u, sn a _ h1, h2⟩
  · refine ⟨by simp [hl], ?_, ?_, ?_, ?_⟩
    · show (G.ads ++ [p]).Nodup
      rw [List.nodup_append]
      exact ⟨t0.s.d, by simp, fun x hx y hy z => by
        rw [List.mem_singleton.mp hy] at z
        exact pa (by rw [← z]; exact hx)⟩
    · intro z
      rcases List.mem_append.mp z with z | z
      · exact t0.s.t z
      · exact ap (List.mem_singleton.mp z)
    · intro k nd' b h1 h2 h3
      by_cases hk : k < t.st.length
      · rw [List.getElem?_append_left hk] at h1
        have h2 : (G.ads ++ [p])[k]? = some b := h2
        rw [List.getElem?_append_left (by omega)] at h2
        exact t0.s.g k nd' b h1 h2 h3
      · have hk2 : k = t.st.length := by
          have := (List.getElem?_eq_some_iff.mp h1).1
          simp at this
          omega
        subst hk2
        have h2 : (G.ads ++ [p])[t.st.length]? = some b := h2
        rw [hl] at h2
        simp at h2
        subst h2
        exact gp
    · intro k nd' b h1 h2
      by_cases hk : k < t.st.length
      · rw [List.getElem?_append_left hk] at h1
        have h2 : (G.ads ++ [p])[k]? = some b := h2
        rw [List.getElem?_append_left (by omega)] at h2
        exact (t0.s.n k nd' b h1 h2).keep gs fun u hu => sn b u hu
      · have hk2 : k = t.st.length := by
          have := (List.getElem?_eq_some_iff.mp h1).1
          simp at this
          omega
        subst hk2
        rw [List.getElem?_append_right (Nat.le_refl _)] at h1
        simp at h1
        subst h1
        have h2 : (G.ads ++ [p])[t.st.length]? = some b := h2
        rw [hl] at h2
        simp at h2
        subst h2
        exact h
/-- where a thing lies, and what it is -/
theorem EnvV.sto {t : Tau} {k : Nat} {nd : Nd} {v : V} (E : EnvV W tp G H σ ρ (some t)) (r : Rp W.K W.cm G v (.ptr k)) (h : t.st[k]? = some nd) : ∃ a p, tp = some a ∧ v = .ref p ∧ p ∈ G.ads ∧ G.ads[k]? = some p ∧ NdR W G H p nd := by
  cases tp with
  | none => exact (show False from E.t).elim
  | some a =>
    have t0 : TapeR W G H a t := E.t
    cases r with
    | ptr hp => exact ⟨a, _, rfl, rfl, List.mem_of_getElem? hp, hp, t0.s.n k nd _ h hp⟩
/-- a thing is another one now -/
theorem EnvS.putM {a p : Addr} {o : HO} {t : Tau} {k : Nat} {nd nd' : Nd} (hW : StW W) (E : EnvS W tp0 G0 H0 (some a) G H σ ρ (some t)) (hk : G.ads[k]? = some p) (h : t.st[k]? = some nd) (nf : nd.isFz = false) (h' : NdR W G (upd H p o) p nd') : EnvS W tp0 G0 H0 (some a) G (upd H p o) σ ρ (some { t with st := t.st.set k nd' }) := by
  have t0 : TapeR W G H a t := E.v.t
  have pm := List.mem_of_getElem? hk
  have np := (t0.s.n k nd p h hk).nt
  have ap : a ≠ p := fun z => t0.s.t (by rw [z]; exact pm)
  have gp : G.hp p = none := t0.s.g k nd p h hk nf
  refine E.mutM (.inr ⟨pm, gp⟩) ⟨t0.g, ?_, ?_, ?_⟩ np
  · obtain ⟨c, h1, h2⟩ := t0.c
    exact ⟨c, h1, by rw [upd_ne ap, hW]; exact h2⟩
  · obtain ⟨u, h1, h2⟩ := t0.n
    exact ⟨u, by rw [upd_ne ap]; exact h1, h2⟩
  · refine ⟨by simp [t0.s.l], t0.s.d, t0.s.t, fun j u b h1 h2 h3 => ?_, fun j u b h1 h2 => ?_⟩
    · by_cases e : j = k
      · subst e
        rw [hk] at h2
        cases h2
        exact gp
      · have h1 : (t.st.set k nd')[j]? = some u := h1
        rw [List.getElem?_set_ne (by omega)] at h1
        exact t0.s.g j u b h1 h2 h3
    by_cases e : j = k
    · subst e
      rw [hk] at h2
      cases h2
      rw [List.getElem?_set_self (List.getElem?_eq_some_iff.mp h).1] at h1
      cases h1
      exact h'
    · have h1 : (t.st.set k nd')[j]? = some u := h1
      rw [List.getElem?_set_ne (by omega)] at h1
      have bp : b ≠ p := fun z => e (by
        subst z
        exact (List.getElem?_inj (List.getElem?_eq_some_iff.mp h2).1 t0.s.d).mp (h2.trans hk.symm))
      exact (t0.s.n j u b h1 h2).keep (GS.refl _) fun w hw => by rw [upd_ne bp]; exact hw
end
end Np
set_option Elab.async false
set_option linter.all false
set_option maxRecDepth 100000
set_option maxHeartbeats 4000000
namespace Np
open PySem PySem.Spec PyProof.Rows L2
section
variable {W : Wp} {Wx : L2.St → XK} {tp0 tp tp' : Option Addr} {G0 G G' : GH} {H0 H H' : Hp} {σ : L2.St} {ρ : PEnv} {τ τ' : TS'} {D : Ends} {te tk tx : TE} {ta : TA} {δe δk δx : DE} {δa : DA}
theorem GS.push (G : GH) (p : Addr) : GS G ⟨G.hp, G.ads ++ [p]⟩ := ⟨Same.refl _, List.prefix_append _ _⟩
theorem OwR.push {a p : Addr} {c : OC} {F : List Addr} (w : OwR W G H a c F) : OwR W ⟨G.hp, G.ads ++ [p]⟩ H a c F := w.keep (GS.push G p) fun _ _ _ h => h
theorem Ext.push {a p : Addr} (e : Ext (some a) G0 H0 G H) (n : H0 p = none) : Ext (some a) G0 H0 ⟨G.hp, G.ads ++ [p]⟩ H :=
  ⟨e.g.trans (GS.push G p), e.h, e.f, e.x, fun q hq => by
    rcases List.mem_append.mp hq with hq | hq
    · exact e.w q hq
    · exact .inr (by rw [List.mem_singleton.mp hq]; exact n), fun z => (nomatch z)⟩
theorem NoM.push {a p q : Addr} (h : NoM (some a) G q) (n : q ≠ p) : NoM (some a) ⟨G.hp, G.ads ++ [p]⟩ q := fun b hb => ⟨(h b hb).1, fun z => by
  rcases List.mem_append.mp z with z | z
  · exact (h b hb).2 z
  · exact n (List.mem_singleton.mp z)⟩
def ndOf : OC → Option Nd
  | .lst xs => some (.lst xs)
  | .dK kvs => some (.dK kvs)
  | .tr _ _ => none
def pushSt (t : Tau) (nd : Nd) : Tau := { t with st := t.st ++ [nd] }
def putSt (t : Tau) (k : Nat) (nd : Nd) : Tau := { t with st := t.st.set k nd }
def dSto (e : PEnv → TS' → R OC) : DE := fun ρ τ => (e ρ τ).bind fun c τ1 => match τ1 with
  | some t => match ndOf c with
    | some nd => .ok (.ptr t.st.length) (some (pushSt t nd))
    | none => .no
  | none => .no
def objAt (st : List Nd) (k : Nat) : Option (Str × List (Str × DD)) := match st[k]? with
  | some (.obj C fs) => some (C, fs)
  | some (.fz (.obj C fs)) => some (C, fs)
  | _ => none
/-- x.f -/
def dSFld (cls f : Str) (a : DE) : DE := fun ρ τ => (a ρ τ).bind fun x τ1 => match x, τ1 with
  | .ptr k, some t => match objAt t.st k with
    | some (C, fs) => if C = cls then R.of τ1 (fs.lookup f) else .no
    | none => .no
  | _, _ => .no
/-- x.f = e -/
def dSFSet (cls f : Str) (o e : DE) : DS := fun ρ τ => stE (e ρ τ) ρ fun d τ1 => stE (o ρ τ1) ρ fun x τ2 => match x, τ2 with
  | .ptr k, some t => match t.st[k]? with
    | some (.obj C fs) => if C = cls ∧ fs.length < 1000 then .ok (.nx ρ) (some (putSt t k (.obj C (putD f d fs)))) else .no
    | _ => .no
  | _, _ => .no
/-- x.m(..) -/
def dSMeP (k : Nat) (cls m : Str) (F : Fn) (a : DE) (r : DPs) : DE := fun ρ τ => (a ρ τ).bind fun x τ1 => match x, τ1 with
  | .ptr q, some t => match objAt t.st q with
    | some (C, fs) => if C = cls ∧ fs.lookup m = none then (r ρ τ1).bind fun as τ2 => if as.length + 1 = k then F (.fr (.ptr q) :: as) τ2 else .no
      else .no
    | none => .no
  | _, _ => .no
def dSMeN (k : Nat) (cls m : Str) (F : Fn) (a : DE) (r : DPs) : DE := fun ρ τ => (a ρ τ).bind fun x τ1 => match x, τ1 with
  | .ptr q, some t => match objAt t.st q with
    | some (C, fs) => if C = cls ∧ fs.lookup m = none then (r ρ τ1).bind fun as τ2 => if as.length + 1 = k then (F (.fr (.ptr q) :: as) τ2).nox else .no
      else .no
    | none => .no
  | _, _ => .no
variable {tr : TA} {δr : DPs}
/-- C(..): a new object that may change, its __init__ any def -/
def mkS (k : Nat) (cls : Str) (F : Fn) (as : List PV) (τ : TS') : R DD := match τ with
  | some t => if as.length + 1 = k then (F (.fr (.ptr t.st.length) :: as) (some (pushSt t (.obj cls [])))).bind fun d τ3 => match d with
      | .non => .ok (.ptr t.st.length) τ3
      | _ => .no
    else .no
  | none => .no
def dMkS (k n m : Nat) (cls : Str) (F : Fn) (g : List PV → List PV → List PV) (a b : DPs) : DE := fun ρ τ => (a ρ τ).bind fun as τ1 => (b ρ τ1).bind fun bs τ2 => if as.length = n ∧ bs.length = m then mkS k cls F (g as bs) τ2 else .no
variable {tz : TA} {δz : DPs}
def ddOf : Nd → Option DD
  | .lst xs => some (.lst xs)
  | .dK kvs => some (.dic kvs)
  | .obj C fs => some (.obj C fs)
  | _ => none
def lstAt (st : List Nd) (k : Nat) : Option (List DD) := match st[k]? with
  | some (.lst xs) => some xs
  | some (.fz (.lst xs)) => some xs
  | _ => none
end
end Np
namespace Np
open PySem PySem.Spec PyProof.Rows L2
end Np
set_option Elab.async false
set_option linter.all false
set_option maxRecDepth 100000
set_option maxHeartbeats 4000000
namespace Np
open PySem PySem.Spec PyProof.Rows L2
section
variable {W : Wp} {Wx : L2.St → XK} {tp0 tp tp' : Option Addr} {G0 G G' : GH} {H0 H H' : Hp} {σ : L2.St} {ρ : PEnv} {τ τ' : TS'} {D : Ends} {te tk tx : TE} {ta : TA} {δe δk δx : DE} {δa : DA}
/-- list(x), x a list of the store -/
def dSLstF (a : DA) : PEnv → TS' → R OC := fun ρ τ => (a ρ τ).bind fun x τ1 => match x, τ1 with
  | [.ptr k], some t => match lstAt t.st k with
    | some xs => .ok (.lst xs) (some t)
    | none => .no
  | _, _ => .no
variable {a : DE} {l h : DO} {x d : DD} {t t1 t2 : Tau} {k : Nat} {xs : List DD} {lo hi : Option Int}
def eSLstF (r : R (List DD)) : R OC := r.bind fun x τ1 => match x, τ1 with
  | [.ptr k], some t => match lstAt t.st k with
    | some xs => .ok (.lst xs) (some t)
    | none => .no
  | _, _ => .no
@[simp] theorem ev_SLstF {a : DA} : dSLstF a ρ τ = eSLstF (a ρ τ) := id rfl
end
section
variable {ρ : PEnv} {τ : TS'} {t : Tau} {xs : List DD} {δ : PEnv → TS' → R OC}
def eSto (r : R OC) : R DD := r.bind fun c τ1 => match τ1 with
  | some t => match ndOf c with
    | some nd => .ok (.ptr t.st.length) (some (pushSt t nd))
    | none => .no
  | none => .no
@[simp] theorem ev_Sto : dSto δ ρ τ = eSto (δ ρ τ) := id rfl
@[simp] theorem eSto_lst : eSto (.ok (.lst xs) (some t)) = .ok (.ptr t.st.length) (some (pushSt t (.lst xs))) := id rfl
end
end Np
set_option Elab.async false
set_option linter.all false
set_option maxRecDepth 100000
set_option maxHeartbeats 4000000
namespace Np
open PySem PySem.Spec PyProof.Rows L2 LamX
end Np
set_option Elab.async false
set_option linter.all false
set_option maxRecDepth 100000
set_option maxHeartbeats 4000000
namespace Np
open PySem PySem.Spec PyProof.Rows L2 LamX
end Np
set_option Elab.async false
set_option linter.all false
set_option maxRecDepth 100000
set_option maxHeartbeats 4000000
namespace Np
open PySem PySem.Spec PyProof.Rows L2
end Np
set_option Elab.async false
set_option linter.all false
set_option maxRecDepth 100000
set_option maxHeartbeats 4000000
namespace Np
open PySem PySem.Spec PyProof.Rows L2
end Np
set_option Elab.async false
set_option linter.all false
set_option maxRecDepth 100000
set_option maxHeartbeats 4000000
namespace Np
open PySem PySem.Spec PyProof.Rows L2
def keyD : DD → Option Key
  | .int i => some (.inl i)
  | .str x => some (.inr x)
  | _ => none
def valD (kvs : List (Key × DD)) (k : Key) : Option DD := (kvs.find? fun kv => decide (kv.1 = k)).map (·.2)
def putKD (kvs : List (Key × DD)) (k : Key) (v : DD) : List (Key × DD) :=
  if (kvs.any fun kv => decide (kv.1 = k)) = true then kvs.map (fun kv => if kv.1 = k then (kv.1, v) else kv) else kvs ++ [(k, v)]
def mergeD (kvs more : List (Key × DD)) : List (Key × DD) := more.foldl (fun acc kv => putKD acc kv.1 kv.2) kvs
def keysDD : List (DD × DD) → Option (List (Key × DD))
  | [] => some []
  | (k, v) :: r => match keyD k, keysDD r with
    | some k, some r => some ((k, v) :: r)
    | _, _ => none
section
variable {K : PySem.W.Frag} {cm : CM} {H : GH}
theorem Rp.key {v : V} {d : DD} {k : Key} (r : Rp K cm H v d) (h : keyD d = some k) : v = kV k := by
  cases d <;> first | (cases h; done) | skip
  · cases h; exact r.int_of
  · cases h; exact r.str_of
theorem RpK.val : ∀ {xs : List (Key × V)} {ds : List (Key × DD)} (k : Key), RpK K cm H xs ds → (∃ v d, valV xs k = some v ∧ valD ds k = some d ∧ Rp K cm H v d) ∨ (valV xs k = none ∧ valD ds k = none)
  | _, _, k, .nil => .inr ⟨rfl, rfl⟩
  | (k', v) :: xs, (_, d) :: ds, k, .cons h r => by
    by_cases e : k' = k
    · refine .inl ⟨v, d, ?_, ?_, h⟩
      · unfold valV; rw [List.find?_cons_of_pos (by simpa using e)]; rfl
      · unfold valD; rw [List.find?_cons_of_pos (by simpa using e)]; rfl
    · have e1 : valV ((k', v) :: xs) k = valV xs k := by unfold valV; rw [List.find?_cons_of_neg (by simpa using e)]
      have e2 : valD ((k', d) :: ds) k = valD ds k := by unfold valD; rw [List.find?_cons_of_neg (by simpa using e)]
      rw [e1, e2]
      exact RpK.val k r
theorem RpK.any (k : Key) : ∀ {xs : List (Key × V)} {ds : List (Key × DD)}, RpK K cm H xs ds → (xs.any fun kv => decide (kv.1 = k)) = (ds.any fun kv => decide (kv.1 = k))
  | _, _, .nil => rfl
  | _, _, .cons h r => by rw [List.any_cons, List.any_cons, RpK.any k r]
theorem RpK.app : ∀ {xs xs' : List (Key × V)} {ds ds' : List (Key × DD)}, RpK K cm H xs ds → RpK K cm H xs' ds' → RpK K cm H (xs ++ xs') (ds ++ ds')
  | _, _, _, _, .nil, s => s
  | _, _, _, _, .cons h r, s => .cons h (RpK.app r s)
theorem RpK.over {k : Key} {v : V} {d : DD} (h : Rp K cm H v d) : ∀ {xs : List (Key × V)} {ds : List (Key × DD)}, RpK K cm H xs ds → RpK K cm H (xs.map fun kv => if kv.1 = k then (kv.1, v) else kv) (ds.map fun kv => if kv.1 = k then (kv.1, d) else kv)
  | _, _, .nil => .nil
  | (k', _) :: _, (_, _) :: _, .cons h' r => by
    rw [List.map_cons, List.map_cons]
    by_cases e : k' = k
    · rw [if_pos e, if_pos e]; exact .cons h (RpK.over h r)
    · rw [if_neg e, if_neg e]; exact .cons h' (RpK.over h r)
theorem RpK.put {xs : List (Key × V)} {ds : List (Key × DD)} {k : Key} {v : V} {d : DD} (r : RpK K cm H xs ds) (h : Rp K cm H v d) : RpK K cm H (putK xs k v) (putKD ds k d) := by
  unfold putK putKD
  rw [r.any k]
  split
  · exact r.over h
  · exact r.app (.cons h .nil)
theorem RpK.len : ∀ {xs : List (Key × V)} {ds : List (Key × DD)}, RpK K cm H xs ds → xs.length = ds.length
  | _, _, .nil => rfl
  | _, _, .cons _ r => congrArg Nat.succ (RpK.len r)
end
section
variable {W : Wp} {Wx : L2.St → XK} {tp : Option Addr} {G G2 : GH} {H H2 : Hp} {σ : L2.St} {ρ : PEnv} {τ τ2 : TS'} {p : Addr} {o o1 : HO}
def dPairs : List (DE × DE) → PEnv → TS' → R (List (DD × DD))
  | [], _, τ => .ok [] τ
  | (a, b) :: r, ρ, τ => (a ρ τ).bind fun x τ1 => (b ρ τ1).bind fun y τ2 => (dPairs r ρ τ2).bind fun ps τ3 => .ok ((x, y) :: ps) τ3
def dDisp (l : List (DE × DE)) : DE := fun ρ τ => (dPairs l ρ τ).bind fun ps τ1 => match keysDD ps with
  | some kvs => if kvs.length ≤ 15 then .ok (.dic (mergeD [] kvs)) τ1 else .no
  | none => .no
end
section
variable {W : Wp} {Wx : L2.St → XK} {td ty tx : TE} {δd δy δx : DE}
def dDGet (d y : DE) : DE := fun ρ τ => (d ρ τ).bind fun x τ1 => (y ρ τ1).bind fun k τ2 => match x, keyD k with
  | .dic kvs, some k => R.of τ2 (valD kvs k)
  | _, _ => .no
def dDIn (neg : Bool) (y d : DE) : DE := fun ρ τ => (y ρ τ).bind fun k τ1 => (d ρ τ1).bind fun x τ2 => match x, keyD k with
  | .dic kvs, some k => .ok (.bl (if neg then !(valD kvs k).isSome else (valD kvs k).isSome)) τ2
  | _, _ => .no
def dDGet2 (d y x : DE) : DE := fun ρ τ => (d ρ τ).bind fun c τ1 => match c with
  | .dic kvs => (y ρ τ1).bind fun k τ2 => (x ρ τ2).bind fun z τ3 => match keyD k with
    | some k => .ok ((valD kvs k).getD z) τ3
    | none => .no
  | _ => .no
end
end Np
set_option Elab.async false
set_option linter.all false
set_option maxRecDepth 100000
set_option maxHeartbeats 4000000
namespace Np
open PySem PySem.Spec PyProof.Rows L2
def tbl : List Str → List Bool → Str → Option Bool
  | n :: ns, v :: vs, s => if s = n then some v else tbl ns vs s
  | _, _, _ => none
section
variable {W : Wp} {Wx : L2.St → XK} {ta : TA} {δa : DA}
def hStrX (F : Fn) (C : Str) (fs : List (Str × DD)) (τ1 : TS') : R DD := (F [.fr (.exc C fs)] τ1).nox.bind fun d τ2 => match d with
  | .str z => .ok (.str z) τ2
  | _ => .no
def dStrX3 (c1 : Str) (F1 : Fn) (c2 : Str) (F2 : Fn) (c3 : Str) (F3 : Fn) (a : DA) : DE := fun ρ τ => (a ρ τ).bind fun xs τ1 => match xs with
  | [.exc C fs] => if C = c1 then hStrX F1 C fs τ1 else if C = c2 then hStrX F2 C fs τ1 else if C = c3 then hStrX F3 C fs τ1 else .no
  | _ => .no
end
def gStrA : DD → Option DD
  | .int i => if i.natAbs.log2 < 1920 then some (.str (toString i)) else none
  | .str x => some (.str x)
  | .non => some (.str "None")
  | _ => none
end Np
set_option Elab.async false
set_option linter.all false
set_option maxRecDepth 100000
set_option maxHeartbeats 4000000
namespace Np
open PySem PySem.Spec PyProof.Rows L2
structure GDict (P : Program) (w : World) (K : PySem.W.Frag) (a : Addr) (kvs : List (Key × V)) : Prop where
  low : (a == sysModules) = false
  ht : ∀ h, K.In h → ∃ vs, KV kvs vs ∧ h.DictOf (mixKind P w) a vs
/-- entries and what they stand for -/
def Ents (w : World) : List DictEntry → List (Key × V) → Prop := Paired fun e p => e.hash = keyH w p.1 ∧ keyIs p.1 e.key = true ∧ RelV p.2 e.val
theorem ents_kv {w : World} : ∀ {es : List DictEntry} {kvs : List (Key × V)}, Ents w es kvs → KV kvs (es.zip kvs |>.map fun z => (z.2.1, z.1.val))
  | _, _, .nil => .nil
  | _, _, .cons h r => .cons ⟨rfl, h.2.2⟩ (ents_kv r)
theorem ents_keys {w : World} {P : Program} : ∀ {es : List DictEntry} {kvs : List (Key × V)}, Ents w es kvs → ∀ e ∈ es, ∃ k, (mixKind P w).is k e.key = true ∧ e.hash = (mixKind P w).hash k
  | _, _, .nil, e, he => by cases he
  | _, _, .cons h r, e, he => by
    rcases List.mem_cons.mp he with rfl | he
    · exact ⟨_, h.2.1, h.1⟩
    · exact ents_keys r e he
theorem ents_pairs {w : World} {P : Program} : ∀ {es : List DictEntry} {kvs : List (Key × V)}, Ents w es kvs → Pairs (mixKind P w) es (es.zip kvs |>.map fun z => (z.2.1, z.1.val))
  | _, _, .nil => .nil
  | _, _, .cons h r => .cons h.2.1 rfl (ents_pairs r)
theorem ents_fst {w : World} : ∀ {es : List DictEntry} {kvs : List (Key × V)}, Ents w es kvs → ((es.zip kvs |>.map fun z => (z.2.1, z.1.val)).map (·.1)) = kvs.map (·.1)
  | _, _, .nil => rfl
  | _, _, .cons h r => by
    have := ents_fst r
    simp only [List.zip_cons_cons, List.map_cons] at this ⊢
    rw [this]
theorem GDict.of {P : Program} {w : World} {K : PySem.W.Frag} {a : Addr} {es : Array DictEntry} {n : Nat} {kvs : List (Key × V)} (hl : K.lookup a = some ⟨.type "dict", none, .dict es n, #[]⟩) (low : (a == sysModules) = false) (h : Ents w es.toList kvs) (nd : (kvs.map (·.1)).Nodup) : GDict P w K a kvs :=
  ⟨low, fun h' hi => ⟨_, ents_kv h, ⟨_, es, n, hi _ _ hl, ⟨rfl, rfl, rfl⟩, rfl, fun e he => ents_keys h e (by simpa using he), ents_pairs h, by rw [ents_fst h]; exact nd⟩⟩⟩
end Np
set_option Elab.async false
set_option linter.all false
set_option maxRecDepth 100000
set_option maxHeartbeats 4000000
namespace Np
open PySem PySem.Spec PyProof.Rows L2
structure GDictI (P : Program) (w : World) (K : PySem.W.Frag) (a : Addr) (kvs : List (Key × V)) (o : Obj) (es : Array DictEntry) (ep : Nat) : Prop where
  low : (a == sysModules) = false
  lk : K.lookup a = some o
  ex : o.ExactDict
  dt : o.data = .dict es ep
  sz : es.size = kvs.length
  en : Ents w es.toList kvs
  nd : (kvs.map (·.1)).Nodup
theorem GDictI.of {P : Program} {w : World} {K : PySem.W.Frag} {a : Addr} {es : Array DictEntry} {n : Nat} {kvs : List (Key × V)} (hl : K.lookup a = some ⟨.type "dict", none, .dict es n, #[]⟩) (low : (a == sysModules) = false) (h : Ents w es.toList kvs) (nd : (kvs.map (·.1)).Nodup) : GDictI P w K a kvs ⟨.type "dict", none, .dict es n, #[]⟩ es n :=
  ⟨low, hl, ⟨rfl, rfl, rfl⟩, rfl, by rw [← Array.length_toList]; exact Paired.length h, h, nd⟩
theorem GDictI.at {P : Program} {w : World} {K : PySem.W.Frag} {a : Addr} {kvs : List (Key × V)} {o : Obj} {es : Array DictEntry} {ep : Nat} (D : GDictI P w K a kvs o es ep) {h : Heap} (hi : K.In h) :
    ∃ vs : List (Key × Value), h.get? a = some o ∧ KV kvs vs ∧ h.DictAt (mixKind P w) a vs ep :=
  ⟨_, hi _ _ D.lk, ents_kv D.en, o, es, hi _ _ D.lk, D.ex, D.dt, fun e he => ents_keys D.en e (by simpa using he), ents_pairs D.en, by rw [ents_fst D.en]; exact D.nd⟩
end Np
set_option Elab.async false
set_option linter.all false
set_option maxRecDepth 100000
set_option maxHeartbeats 4000000
namespace Np
open PySem PySem.Spec PyProof.Rows L2
section
variable {W : Wp} {Wx : L2.St → XK}
theorem RpA.dropLast {K : PySem.W.Frag} {cm : CM} {H : GH} : ∀ {v : List V} {d : List DD}, RpA K cm H v d → RpA K cm H v.dropLast d.dropLast
  | _, _, .nil => .nil
  | _, _, .cons a .nil => .nil
  | _, _, .cons a (.cons b r) => .cons a (RpA.dropLast (.cons b r))
def dPop2 (i j k l : Nat) : DS := fun ρ τ => match ρ[i]?, ρ[j]? with
  | some (some (.ow (.lst xs))), some (some (.ow (.lst ys))) => if i = j then .no else match xs[xs.length - 1]?, ys[ys.length - 1]? with
    | some x, some y => .ok (.nx ((((ρ.set i (some (.ow (.lst xs.dropLast)))).set j (some (.ow (.lst ys.dropLast)))).set k (some (.fr x))).set l (some (.fr y)))) τ
    | _, _ => .no
  | _, _ => .no
def ePop2 (o1 o2 : Option (Option PV)) (i j k l : Nat) (ρ : PEnv) (τ : TS') : R Ct := match o1, o2 with
  | some (some (.ow (.lst xs))), some (some (.ow (.lst ys))) => if i = j then .no else match xs[xs.length - 1]?, ys[ys.length - 1]? with
    | some x, some y => .ok (.nx ((((ρ.set i (some (.ow (.lst xs.dropLast)))).set j (some (.ow (.lst ys.dropLast)))).set k (some (.fr x))).set l (some (.fr y)))) τ
    | _, _ => .no
  | _, _ => .no
@[simp] theorem ev_Pop2 {i j k l : Nat} {ρ : PEnv} {τ : TS'} : dPop2 i j k l ρ τ = ePop2 ρ[i]? ρ[j]? i j k l ρ τ := by
  unfold dPop2 ePop2
  rfl
end
end Np
set_option Elab.async false
set_option linter.all false
set_option maxRecDepth 100000
set_option maxHeartbeats 4000000
namespace Np
open PySem PySem.Spec PyProof.Rows L2
/-- a handler: the class's name and where that stands, the name, the suite -/
structure HdS where
  x : Str
  np : Pos
  n : Str
  i : Nat
  c : Value
  b₀ : Stmt
  suite : List Stmt
  pos : Pos
  ts : TS
def HdS.h (h : HdS) : ExceptHandler := .ExceptHandler (some (.Name h.x h.np)) (some h.n) (h.b₀ :: h.suite) h.pos
end Np
set_option Elab.async false
set_option linter.all false
set_option maxRecDepth 100000
set_option maxHeartbeats 4000000
namespace Np
open PySem PySem.Spec PyProof.Rows L2
mutual
def noLs : DD → Bool
  | .lst _ => false
  | .tup ds => noLsA ds
  | .tux ds => noLsA ds
  | .dic ks => noLsK ks
  | .obj _ fs => noLsF fs
  | .exc _ fs => noLsF fs
  | _ => true
def noLsA : List DD → Bool
  | [] => true
  | d :: ds => noLs d && noLsA ds
def noLsK : List (Key × DD) → Bool
  | [] => true
  | (_, d) :: ds => noLs d && noLsK ds
def noLsF : List (Str × DD) → Bool
  | [] => true
  | (_, d) :: ds => noLs d && noLsF ds
end
section
variable {W : Wp} {Wx : L2.St → XK} {tp : Option Addr} {G G1 G2 : GH} {H H2 : Hp} {σ : L2.St} {ρ : PEnv} {τ : TS'} {te : TE} {φ : PEnv → TS' → R OC}
def dBorF (i : Nat) (φ : PEnv → TS' → R OC) : PEnv → TS' → R OC := fun ρ τ => match ρ[i]? with
  | some (some (.ow (.lst zs))) => match φ (bor i (.lst zs) ρ) none with
    | .ok (.lst xs) _ => if noLsA xs = true then .ok (.lst xs) τ else .no
    | _ => .no
  | _ => .no
end
end Np
set_option Elab.async false
set_option linter.all false
set_option maxRecDepth 100000
set_option maxHeartbeats 4000000
namespace Np
open PySem PySem.Spec PyProof.Rows L2
def gRevX : DD → Option DD
  | .tux ds => some (.tux ds.reverse)
  | _ => none
section
variable {W : Wp} {Wx : L2.St → XK} {ta : TE} {δa : DE} {ρ : PEnv} {τ : TS'}
def dRevF (δ : DE) : PEnv → TS' → R OC := fun ρ τ => (δ ρ τ).bind fun d τ1 => match d with
  | .lst xs => .ok (.lst xs.reverse) τ1
  | _ => .no
def eRevF (r : R DD) : R OC := r.bind fun d τ1 => match d with
  | .lst xs => .ok (.lst xs.reverse) τ1
  | _ => .no
@[simp] theorem ev_RevF : dRevF δa ρ τ = eRevF (δa ρ τ) := id rfl
@[simp] theorem eRevF_ok {xs : List DD} : eRevF (.ok (.lst xs) τ) = .ok (.lst xs.reverse) τ := id rfl
@[simp] theorem eRevF_ex {x : Ex} : eRevF (.ex x τ) = .ex x τ := id rfl
def eBorF (o : Option (Option PV)) (i : Nat) (φ : PEnv → TS' → R OC) (ρ : PEnv) (τ : TS') : R OC := match o with
  | some (some (.ow (.lst zs))) => match φ (bor i (.lst zs) ρ) none with
    | .ok (.lst xs) _ => if noLsA xs = true then .ok (.lst xs) τ else .no
    | _ => .no
  | _ => .no
def eBorF2 (r : R OC) (τ : TS') : R OC := match r with
    | .ok (.lst xs) _ => if noLsA xs = true then .ok (.lst xs) τ else .no
    | _ => .no
@[simp] theorem ev_BorF {i : Nat} {φ : PEnv → TS' → R OC} : dBorF i φ ρ τ = eBorF ρ[i]? i φ ρ τ := id rfl
@[simp] theorem eBorF_ok {i : Nat} {φ : PEnv → TS' → R OC} {zs : List DD} : eBorF (some (some (.ow (.lst zs)))) i φ ρ τ = eBorF2 (φ (bor i (.lst zs) ρ) none) τ := id rfl
@[simp] theorem eBorF2_ok {xs : List DD} {τ' : TS'} : eBorF2 (.ok (.lst xs) τ') τ = if noLsA xs = true then .ok (.lst xs) τ else .no := id rfl
end
@[simp] theorem gRevX_eq {ds : List DD} : gRevX (.tux ds) = some (.tux ds.reverse) := id rfl
end Np
set_option Elab.async false
set_option linter.all false
set_option maxRecDepth 100000
set_option maxHeartbeats 4000000
namespace Np
open PySem PySem.Spec PyProof.Rows L2
structure RoomQ (k : Nat) (A : Around) : Prop where
  dp : A.depth + 3 * k + 5 < recursionLimit
  un : A.units + 16 * k + 200 < cLine
theorem RoomQ.of {k j : Nat} {A B : Around} (h : Room k A) (d : B.depth = A.depth) (u : B.units = A.units) (e : j ≤ k) : RoomQ j B := ⟨by have := h.dp; omega, by have := h.un; omega⟩
/-- A with nothing handled -/
def calmed (A : Around) : Around := { A with handled := none }
theorem RoomQ.calm {k : Nat} {A : Around} (h : RoomQ k A) : Room k (calmed A) := ⟨rfl, h.dp, h.un⟩
structure FnQ (P : Program) (w : World) (K : PySem.W.Frag) (mg : Str → Option Value) (base : Heap) (k : Nat) (f : Addr) (fd : FuncData) (ps : List Str) (sp : Sp) : Prop where
  len : ∀ vs H Q E, sp vs H Q E → vs.length = ps.length
  run : ∀ (A : Around) (outer : List Env) (s : Shared) (H : Hp) (args : Args) (us : List Value) (vs : List V) (Q : VK), A.guards = some [] → RoomQ k A → Env0 P w K mg base A outer s H → BindsTo s fd args (ps.zip us) → Vals vs us → sp vs H Q E0 →
    codeAny (model P w) A (.call (.ref f) args) (CR CX0 outer P w H s Q E0) s
/-- str(x) of a kept exception by an own __str__, within a suite too -/
def StrQ (P : Program) (w : World) (K : PySem.W.Frag) (mg : Str → Option Value) (base : Heap) (k : Nat) (C : Addr) (ps : List Str) (sp : Sp) : Prop :=
  ∃ (f : Addr) (fd : FuncData), FnQ P w K mg base k f fd ps sp ∧ Binds K fd ps [] ∧ PySem.W.findIn K (.ref C) "__str__" = some (some (.ref f)) ∧ PySem.W.isFn K (.ref f) = true
end Np
set_option Elab.async false
set_option linter.all false
set_option maxRecDepth 100000
set_option maxHeartbeats 4000000
namespace Np
open PySem PySem.Spec PyProof.Rows L2 LamX
abbrev Wp.thk (W : Wp) (f c : Addr) (q : Str) (g : GH) : Wp := ⟨W.K, W.cm, W.tk, W.T, some (f, c, q, g)⟩
section
variable {W : Wp} {G : GH} {H : Hp} {f c : Addr} {q : Str} {g : GH} {tp : Option Addr} {τ : TS'}
theorem SB.th (h : SB W G H) : SB (W.thk f c q g) G H := ⟨h.s, h.t, h.n⟩
theorem SB.unth (h : SB (W.thk f c q g) G H) : SB W G H := ⟨h.s, h.t, h.n⟩
theorem NdR.th {a : Addr} {nd : Nd} (h : NdR W G H a nd) : NdR (W.thk f c q g) G H a nd := by
  cases nd <;> exact h
theorem NdR.unth {a : Addr} {nd : Nd} (h : NdR (W.thk f c q g) G H a nd) : NdR W G H a nd := by
  cases nd <;> exact h
theorem TapeO.th (h : TapeO W G H tp τ) : TapeO (W.thk f c q g) G H tp τ := by
  match tp, τ, h with
  | none, none, _ => trivial
  | some a, some τ, h =>
    have h : TapeR W G H a τ := h
    exact (⟨h.g, h.c, h.n, ⟨h.s.l, h.s.d, h.s.t, h.s.g, fun k nd a h1 h2 => (h.s.n k nd a h1 h2).th⟩⟩ : TapeR (W.thk f c q g) G H a τ)
theorem TapeO.unth (h : TapeO (W.thk f c q g) G H tp τ) : TapeO W G H tp τ := by
  match tp, τ, h with
  | none, none, _ => trivial
  | some a, some τ, h =>
    have h : TapeR (W.thk f c q g) G H a τ := h
    exact (⟨h.g, h.c, h.n, ⟨h.s.l, h.s.d, h.s.t, h.s.g, fun k nd a h1 h2 => (h.s.n k nd a h1 h2).unth⟩⟩ : TapeR W G H a τ)
theorem ArgR.unth {v : V} {p : PV} (h : ArgR (W.thk f c q g) tp G v p) : ArgR W tp G v p := by
  cases p <;> exact h
theorem args_unth {vs : List V} {ps : List PV} (h : Paired (ArgR (W.thk f c q g) tp G) vs ps) : Paired (ArgR W tp G) vs ps := by
  induction h with
  | nil => exact .nil
  | cons h t ih => exact .cons h.unth ih
theorem FnPost.unth {Q : VK} {E : XK} {r : R DD} (h : FnPost (W.thk f c q g) tp G H Q E r) : FnPost W tp G H Q E r := by
  cases r with
  | ok d τ' => exact fun v G' H' e s t r => h v G' H' e s.th t.th r
  | ex x τ' => exact fun d G' H' e s t hx => h d G' H' e s.th t.th hx
  | no => exact h
theorem FnPost.th {Q : VK} {E : XK} {r : R DD} (h : FnPost W tp G H Q E r) : FnPost (W.thk f c q g) tp G H Q E r := by
  cases r with
  | ok d τ' => exact fun v G' H' e s t r => h v G' H' e s.unth t.unth r
  | ex x τ' => exact fun d G' H' e s t hx => h d G' H' e s.unth t.unth hx
  | no => exact h
theorem spP_unth {k : Nat} {F : Fn} {vs : List V} {Q : VK} {E : XK} (h : spP (W.thk f c q g) k F vs H Q E) : spP W k F vs H Q E := by
  obtain ⟨l, tp, G, as, τ, s, a, t, h⟩ := h
  exact ⟨l, tp, G, as, τ, s.unth, args_unth a, t.unth, h.unth⟩
theorem FnG.imp {P : Program} {w : World} {K : PySem.W.Frag} {mg : Str → Option Value} {base : Heap} {CX : CXT} {k : Nat} {f : Addr} {fd : FuncData} {ps : List Str} {sp sp' : Sp} (F : FnG P w K mg base CX k f fd ps sp)
    (h : ∀ vs H Q E, sp' vs H Q E → sp vs H Q E) : FnG P w K mg base CX k f fd ps sp' := ⟨fun vs H Q E z => F.len vs H Q E (h _ _ _ _ z), fun A outer s H args us vs Q E hg hr e b r z => F.run A outer s H args us vs Q E hg hr e b r (h _ _ _ _ z)⟩
theorem OkG.th {P : Program} {w : World} {K : PySem.W.Frag} {mg : Str → Option Value} {base : Heap} {CX : CXT} {k j : Nat} {x : Str} {a : Addr} {fd : FuncData} {ps : List Str} {F : Fn} (O : OkG P w K mg base CX k x ps (spP W j F) a fd) : OkG P w K mg base CX k x ps (spP (W.thk f c q g) j F) a fd :=
  ⟨O.ok.imp fun _ _ _ _ h => spP_unth h, O.m, O.kp⟩
theorem FnQ.imp {P : Program} {w : World} {K : PySem.W.Frag} {mg : Str → Option Value} {base : Heap} {k : Nat} {f : Addr} {fd : FuncData} {ps : List Str} {sp sp' : Sp} (F : FnQ P w K mg base k f fd ps sp)
    (h : ∀ vs H Q E, sp' vs H Q E → sp vs H Q E) : FnQ P w K mg base k f fd ps sp' := ⟨fun vs H Q E z => F.len vs H Q E (h _ _ _ _ z), fun A outer s H args us vs Q hg hr e b r z => F.run A outer s H args us vs Q hg hr e b r (h _ _ _ _ z)⟩
end
theorem StrQ.th {W : Wp} {f c : Addr} {q : Str} {g : GH} {P : Program} {w : World} {K : PySem.W.Frag} {mg : Str → Option Value} {base : Heap} {k j : Nat} {C : Addr} {ps : List Str} {F : Fn} (h : StrQ P w K mg base k C ps (spP W j F)) : StrQ P w K mg base k C ps (spP (W.thk f c q g) j F) := by
  obtain ⟨a, fd, F0, r⟩ := h
  exact ⟨a, fd, F0.imp fun _ _ _ _ h => spP_unth h, r⟩
end Np
set_option Elab.async false
set_option linter.all false
set_option maxRecDepth 100000
set_option maxHeartbeats 4000000
namespace Np
open PySem PySem.Spec PyProof.Rows L2
section
variable {W : Wp} {Wx : L2.St → XK} {tp : Option Addr} {σ : L2.St} {ρ : PEnv} {τ : TS'}
def frs : List OT → Option (List DD)
  | [] => some []
  | .fr d :: us => (frs us).map fun ds => d :: ds
  | _ :: _ => none
@[simp] theorem frs_map (ds : List DD) : frs (ds.map OT.fr) = some ds := by
  induction ds with
  | nil => rfl
  | cons d ds ih => simp [frs, ih]
end
end Np
set_option Elab.async false
set_option linter.all false
set_option maxRecDepth 100000
set_option maxHeartbeats 4000000
namespace Np
open PySem PySem.Spec PyProof.Rows L2
structure OkQ (P : Program) (w : World) (K : PySem.W.Frag) (mg : Str → Option Value) (base : Heap) (k : Nat) (x : Str) (ps : List Str) (sp : Sp) (f : Addr) (fd : FuncData) : Prop where
  ok : FnQ P w K mg base k f fd ps sp
  m : mg x = some (.ref f)
  kp : PySem.W.keepIn K (.ref f) = true
theorem OkQ.th {W : Wp} {f c : Addr} {q : Str} {g : GH} {P : Program} {w : World} {K : PySem.W.Frag} {mg : Str → Option Value} {base : Heap} {k j : Nat} {x : Str} {a : Addr} {fd : FuncData} {ps : List Str} {F : Fn} (O : OkQ P w K mg base k x ps (spP W j F) a fd) : OkQ P w K mg base k x ps (spP (W.thk f c q g) j F) a fd :=
  ⟨O.ok.imp fun _ _ _ _ h => spP_unth h, O.m, O.kp⟩
end Np
set_option Elab.async false
set_option linter.all false
set_option maxRecDepth 100000
set_option maxHeartbeats 4000000
namespace Np
open PySem PySem.Spec PyProof.Rows L2 CwR
end Np
set_option Elab.async false
set_option linter.all false
set_option maxRecDepth 100000
set_option maxHeartbeats 4000000
namespace Np
open PySem PySem.Spec PyProof.Rows L2 CwR
end Np
set_option Elab.async false
set_option linter.all false
set_option maxRecDepth 100000
set_option maxHeartbeats 4000000
namespace Np
open PySem PySem.Spec PyProof.Rows L2 CwR
end Np
set_option Elab.async false
set_option linter.all false
set_option maxRecDepth 100000
set_option maxHeartbeats 4000000
namespace Np
open PySem PySem.Spec PyProof.Rows L2
section
variable {W : Wp} {Wx : L2.St → XK}
def noX (r : R Ct) : R Ct := match r with
  | .ok (.nx ρ) τ => .ok (.nx ρ) τ
  | .ok (.bk ρ) τ => .ok (.bk ρ) τ
  | .ok (.ct ρ) τ => .ok (.ct ρ) τ
  | .ok (.rt d) τ => .ok (.rt d) τ
  | _ => .no
def dTryO (exm : Str → Option Bool) (δ δh : DS) : DS := fun ρ τ => match δ ρ τ with
  | .ok (.xc x ρ1) τ1 => match exm x.cls with
    | some true => noX (δh ρ1 τ1)
    | some false => .ok (.xc x ρ1) τ1
    | none => .no
  | r => r
end
end Np
set_option Elab.async false
set_option linter.all false
set_option maxRecDepth 100000
namespace Np
open PySem PySem.Spec PyProof.Rows L2
section
variable {ρ : PEnv} {τ τ' : TS'} {a b d x y : DE} {δ δh : DS} {c z : DD} {k : Key} {kvs : List (Key × DD)} {l : List (DE × DE)} {ps : List (DD × DD)} {da : DA} {e : Ex}
def ePr3 (r : R (List (DD × DD))) (x y : DD) : R (List (DD × DD)) := r.bind fun ps τ3 => .ok ((x, y) :: ps) τ3
def ePr2 (r : R DD) (x : DD) (l : List (DE × DE)) (ρ : PEnv) : R (List (DD × DD)) := r.bind fun y τ2 => (dPairs l ρ τ2).bind fun ps τ3 => .ok ((x, y) :: ps) τ3
def ePr1 (r : R DD) (b : DE) (l : List (DE × DE)) (ρ : PEnv) : R (List (DD × DD)) := r.bind fun x τ1 => (b ρ τ1).bind fun y τ2 => (dPairs l ρ τ2).bind fun ps τ3 => .ok ((x, y) :: ps) τ3
@[simp] theorem dPairs_nil : dPairs [] ρ τ = .ok [] τ := id rfl
@[simp] theorem dPairs_cons : dPairs ((a, b) :: l) ρ τ = ePr1 (a ρ τ) b l ρ := id rfl
@[simp] theorem ePr1_ok : ePr1 (.ok c τ) b l ρ = ePr2 (b ρ τ) c l ρ := id rfl
@[simp] theorem ePr2_ok : ePr2 (.ok z τ) c l ρ = ePr3 (dPairs l ρ τ) c z := id rfl
@[simp] theorem ePr3_ok : ePr3 (.ok ps τ) c z = .ok ((c, z) :: ps) τ := id rfl
def hDisp (o : Option (List (Key × DD))) (τ : TS') : R DD := match o with
  | some kvs => if kvs.length ≤ 15 then .ok (.dic (mergeD [] kvs)) τ else .no
  | none => .no
def eDisp (r : R (List (DD × DD))) : R DD := r.bind fun ps τ1 => hDisp (keysDD ps) τ1
@[simp] theorem ev_Disp : dDisp l ρ τ = eDisp (dPairs l ρ τ) := id rfl
@[simp] theorem eDisp_ok : eDisp (.ok ps τ) = hDisp (keysDD ps) τ := id rfl
@[simp] theorem hDisp_ok : hDisp (some kvs) τ = if kvs.length ≤ 15 then .ok (.dic (mergeD [] kvs)) τ else .no := id rfl
@[simp] theorem keysDD_nil : keysDD [] = some [] := id rfl
def kc2 (k : Option Key) (v : DD) (r : Option (List (Key × DD))) : Option (List (Key × DD)) := match k, r with
  | some k, some r => some ((k, v) :: r)
  | _, _ => none
@[simp] theorem keysDD_cons : keysDD ((c, z) :: ps) = kc2 (keyD c) z (keysDD ps) := id rfl
@[simp] theorem kc2_ok : kc2 (some k) z (some kvs) = some ((k, z) :: kvs) := id rfl
@[simp] theorem keyD_int {i : Int} : keyD (.int i) = some (.inl i) := id rfl
@[simp] theorem keyD_str {i : PySem.Str} : keyD (.str i) = some (.inr i) := id rfl
def hGet (c : DD) (o : Option Key) (τ : TS') : R DD := match c, o with
  | .dic kvs, some k => R.of τ (valD kvs k)
  | _, _ => .no
def eGet2 (r : R DD) (c : DD) : R DD := r.bind fun k τ2 => hGet c (keyD k) τ2
def eGet1 (r : R DD) (y : DE) (ρ : PEnv) : R DD := r.bind fun x τ1 => (y ρ τ1).bind fun k τ2 => hGet x (keyD k) τ2
@[simp] theorem ev_DGet : dDGet d y ρ τ = eGet1 (d ρ τ) y ρ := id rfl
@[simp] theorem eGet1_ok : eGet1 (.ok c τ) y ρ = eGet2 (y ρ τ) c := id rfl
@[simp] theorem eGet2_ok : eGet2 (.ok z τ) c = hGet c (keyD z) τ := id rfl
@[simp] theorem hGet_ok : hGet (.dic kvs) (some k) τ = R.of τ (valD kvs k) := id rfl
def hIn (neg : Bool) (c : DD) (o : Option Key) (τ : TS') : R DD := match c, o with
  | .dic kvs, some k => .ok (.bl (if neg then !(valD kvs k).isSome else (valD kvs k).isSome)) τ
  | _, _ => .no
def eIn2 (r : R DD) (neg : Bool) (k : DD) : R DD := r.bind fun x τ2 => hIn neg x (keyD k) τ2
def eIn1 (r : R DD) (neg : Bool) (d : DE) (ρ : PEnv) : R DD := r.bind fun k τ1 => (d ρ τ1).bind fun x τ2 => hIn neg x (keyD k) τ2
@[simp] theorem ev_DIn {neg : Bool} : dDIn neg y d ρ τ = eIn1 (y ρ τ) neg d ρ := id rfl
@[simp] theorem eIn1_ok {neg : Bool} : eIn1 (.ok c τ) neg d ρ = eIn2 (d ρ τ) neg c := id rfl
@[simp] theorem eIn2_ok {neg : Bool} : eIn2 (.ok z τ) neg c = hIn neg z (keyD c) τ := id rfl
@[simp] theorem hIn_f : hIn false (.dic kvs) (some k) τ = .ok (.bl (valD kvs k).isSome) τ := id rfl
@[simp] theorem hIn_t : hIn true (.dic kvs) (some k) τ = .ok (.bl (!(valD kvs k).isSome)) τ := id rfl
def hGt3 (kvs : List (Key × DD)) (o : Option Key) (z : DD) (τ : TS') : R DD := match o with
  | some k => .ok ((valD kvs k).getD z) τ
  | none => .no
def eGt3 (r : R DD) (kvs : List (Key × DD)) (k : DD) : R DD := r.bind fun z τ3 => hGt3 kvs (keyD k) z τ3
def eGt2 (r : R DD) (kvs : List (Key × DD)) (x : DE) (ρ : PEnv) : R DD := r.bind fun k τ2 => (x ρ τ2).bind fun z τ3 => hGt3 kvs (keyD k) z τ3
def eGt1 (r : R DD) (y x : DE) (ρ : PEnv) : R DD := r.bind fun c τ1 => match c with
  | .dic kvs => (y ρ τ1).bind fun k τ2 => (x ρ τ2).bind fun z τ3 => hGt3 kvs (keyD k) z τ3
  | _ => .no
@[simp] theorem ev_DGet2 : dDGet2 d y x ρ τ = eGt1 (d ρ τ) y x ρ := id rfl
@[simp] theorem eGt1_ok : eGt1 (.ok (.dic kvs) τ) y x ρ = eGt2 (y ρ τ) kvs x ρ := id rfl
@[simp] theorem eGt2_ok : eGt2 (.ok c τ) kvs x ρ = eGt3 (x ρ τ) kvs c := id rfl
@[simp] theorem eGt3_ok : eGt3 (.ok z τ) kvs c = hGt3 kvs (keyD c) z τ := id rfl
@[simp] theorem hGt3_ok : hGt3 kvs (some k) z τ = .ok ((valD kvs k).getD z) τ := id rfl
def hStr3 (c1 : PySem.Str) (F1 : Fn) (c2 : PySem.Str) (F2 : Fn) (c3 : PySem.Str) (F3 : Fn) (C : PySem.Str) (fs : List (PySem.Str × DD)) (τ1 : TS') : R DD :=
  if C = c1 then hStrX F1 C fs τ1 else if C = c2 then hStrX F2 C fs τ1 else if C = c3 then hStrX F3 C fs τ1 else .no
def eStr3 (r : R (List DD)) (c1 : PySem.Str) (F1 : Fn) (c2 : PySem.Str) (F2 : Fn) (c3 : PySem.Str) (F3 : Fn) : R DD := r.bind fun xs τ1 => match xs with
  | [.exc C fs] => hStr3 c1 F1 c2 F2 c3 F3 C fs τ1
  | _ => .no
@[simp] theorem ev_StrX3 {c1 c2 c3 : PySem.Str} {F1 F2 F3 : Fn} : dStrX3 c1 F1 c2 F2 c3 F3 da ρ τ = eStr3 (da ρ τ) c1 F1 c2 F2 c3 F3 := id rfl
@[simp] theorem eStr3_ok {c1 c2 c3 C : PySem.Str} {F1 F2 F3 : Fn} {fs : List (PySem.Str × DD)} : eStr3 (.ok [.exc C fs] τ) c1 F1 c2 F2 c3 F3 = hStr3 c1 F1 c2 F2 c3 F3 C fs τ := id rfl
def hSx (r : R DD) : R DD := r.nox.bind fun d τ2 => match d with
  | .str z => .ok (.str z) τ2
  | _ => .no
@[simp] theorem hStrX_ev {F : Fn} {C : PySem.Str} {fs : List (PySem.Str × DD)} : hStrX F C fs τ = hSx (F [.fr (.exc C fs)] τ) := id rfl
@[simp] theorem hSx_ok {z : PySem.Str} : hSx (.ok (.str z) τ) = .ok (.str z) τ := id rfl
@[simp] theorem gStrA_int {i : Int} : gStrA (.int i) = if i.natAbs.log2 < 1920 then some (.str (toString i)) else none := id rfl
@[simp] theorem gStrA_str {i : PySem.Str} : gStrA (.str i) = some (.str i) := id rfl
@[simp] theorem gStrA_non : gStrA .non = some (.str "None") := id rfl
end
end Np
set_option Elab.async false
set_option linter.all false
set_option maxRecDepth 100000
set_option maxHeartbeats 4000000
namespace Np
open PySem PySem.Spec PyProof.Rows L2
def rReprA (K : PySem.W.Frag) : List V → Hp → VK → Prop := fun xs H Q => (xs = [.non] ∧ Q (.str "None") H) ∨ (∃ i, xs = [.int i] ∧ i.natAbs.log2 < 1920 ∧ Q (.str (toString i)) H) ∨ rReprD K xs H Q
theorem call_reprA {X : Cx} (K : PySem.W.Frag) (hgd : X.A.guards = some []) (hu : X.A.units + 130 < cLine) (hK : X.K = K := by rfl) : CallR X (.builtin "repr") (rReprA K) := by
  intro pins s σ H xs us Q I r h
  rcases h with ⟨rfl, q⟩ | h | h
  · obtain ⟨u, e, ru⟩ := vals1 r
    subst e
    obtain rfl : u = Value.none := ru
    exact PySem.P.repr_of_none ⟨.str "None", H, I.tok _, ⟨_, rfl⟩, q⟩
  · exact SkE.call_repr_int pins s σ H xs us Q I r h
  · exact call_reprD K hgd hu hK pins s σ H xs us Q I r h
def gReprA : DD → Option DD
  | .non => some (.str "None")
  | .int i => if i.natAbs.log2 < 1920 then some (.str (toString i)) else none
  | d => gRepr d
theorem cd_reprA {W : Wp} : CallD W (rReprA W.K) (c1 gReprA) := by
  intro G H x a c Q s ra e k
  have e0 := c1_eq e
  obtain ⟨d, rfl, e1⟩ := e0
  cases d with
  | non =>
    cases ra with | cons r rs =>
    cases rs
    cases r
    cases e1
    exact .inl ⟨rfl, k _ G H ext_n s (.str _)⟩
  | int i =>
    cases ra with | cons r rs =>
    cases rs
    cases r
    have e1 : (if i.natAbs.log2 < 1920 then some (DD.str (toString i)) else none) = some c := e1
    split at e1
    · rename_i hl
      cases e1
      exact .inr (.inl ⟨i, rfl, hl, k _ G H ext_n s (.str _)⟩)
    · cases e1
  | _ => exact .inr (.inr (cd_repr G H x _ c Q s ra e k))
section
variable {ρ : PEnv} {τ τ' : TS'} {a b e o : DE} {r s : DPs} {k n m : Nat} {F : Fn} {g : List PV → List PV → List PV} {as bs : List PV} {cls mm f C : PySem.Str} {fs : List (PySem.Str × DD)} {d x y z : DD} {t : Tau} {nd nd' : Nd} {op : DD → DD → Option DD}
@[simp] theorem putSt_push : putSt (pushSt t nd) t.st.length nd' = pushSt t nd' := by
  unfold putSt pushSt
  dsimp only
  rw [List.set_append_right _ _ (Nat.le_refl _), Nat.sub_self]
  rfl
@[simp] theorem pushSt_get : (pushSt t nd).st[t.st.length]? = some nd := by
  unfold pushSt
  simp
@[simp] theorem objAt_push : objAt (pushSt t (.obj C fs)).st t.st.length = some (C, fs) := by
  unfold objAt
  rw [pushSt_get]
theorem Tn.push {N : Nat} (h : Tn N t) : Tn N (pushSt t nd) := ⟨h.a0, h.a1, h.l0⟩
def eSFld (r : R DD) (cls f : PySem.Str) : R DD := r.bind fun x τ1 => match x, τ1 with
  | .ptr k, some t => match objAt t.st k with
    | some (C, fs) => if C = cls then R.of τ1 (fs.lookup f) else .no
    | none => .no
  | _, _ => .no
@[simp] theorem ev_SFld : dSFld cls f a ρ τ = eSFld (a ρ τ) cls f := id rfl
@[simp] theorem eSFld_at (h : objAt t.st k = some (cls, fs)) : eSFld (.ok (.ptr k) (some t)) cls f = R.of (some t) (fs.lookup f) := by
  show (match objAt t.st k with | some (C, fs) => _ | none => _) = _
  rw [h]
  exact if_pos rfl
def eSFSet2 (r : R DD) (cls f : PySem.Str) (ρ : PEnv) (d : DD) : R Ct := stE r ρ fun x τ2 => match x, τ2 with
  | .ptr k, some t => match t.st[k]? with
    | some (.obj C fs) => if C = cls ∧ fs.length < 1000 then .ok (.nx ρ) (some (putSt t k (.obj C (putD f d fs)))) else .no
    | _ => .no
  | _, _ => .no
def eSFSet1 (r : R DD) (cls f : PySem.Str) (o : DE) (ρ : PEnv) : R Ct := stE r ρ fun d τ1 => eSFSet2 (o ρ τ1) cls f ρ d
@[simp] theorem ev_SFSet : dSFSet cls f o e ρ τ = eSFSet1 (e ρ τ) cls f o ρ := id rfl
@[simp] theorem eSFSet1_ok : eSFSet1 (.ok d τ) cls f o ρ = eSFSet2 (o ρ τ) cls f ρ d := id rfl
@[simp] theorem eSFSet1_ex {x : Ex} : eSFSet1 (.ex x τ) cls f o ρ = .ok (.xc x ρ) τ := id rfl
theorem eSFSet2_eq : eSFSet2 (.ok (.ptr k) (some t)) cls f ρ d = match t.st[k]? with
    | some (.obj C fs) => if C = cls ∧ fs.length < 1000 then .ok (.nx ρ) (some (putSt t k (.obj C (putD f d fs)))) else .no
    | _ => .no := id rfl
@[simp] theorem eSFSet2_at (h : t.st[k]? = some (.obj cls fs)) : eSFSet2 (.ok (.ptr k) (some t)) cls f ρ d = if fs.length < 1000 then .ok (.nx ρ) (some (putSt t k (.obj cls (putD f d fs)))) else .no := by
  rw [eSFSet2_eq, h]
  simp only [true_and]
def eSMeN2 (r : R (List PV)) (k : Nat) (F : Fn) (q : Nat) : R DD := r.bind fun as τ2 => if as.length + 1 = k then (F (.fr (.ptr q) :: as) τ2).nox else .no
def eSMeN1 (r : R DD) (k : Nat) (cls m : PySem.Str) (F : Fn) (ps : DPs) (ρ : PEnv) : R DD := r.bind fun x τ1 => match x, τ1 with
  | .ptr q, some t => match objAt t.st q with
    | some (C, fs) => if C = cls ∧ fs.lookup m = none then eSMeN2 (ps ρ τ1) k F q else .no
    | none => .no
  | _, _ => .no
@[simp] theorem ev_SMeN : dSMeN k cls mm F a r ρ τ = eSMeN1 (a ρ τ) k cls mm F r ρ := by
  unfold dSMeN eSMeN1
  congr 1
@[simp] theorem eSMeN1_at {q : Nat} (h : objAt t.st q = some (cls, fs)) : eSMeN1 (.ok (.ptr q) (some t)) k cls mm F r ρ = if fs.lookup mm = none then eSMeN2 (r ρ (some t)) k F q else .no := by
  show (match objAt t.st q with | some (C, fs) => _ | none => _) = _
  rw [h]
  simp only [true_and]
@[simp] theorem eSMeN1_ex {x : Ex} : eSMeN1 (.ex x τ) k cls mm F r ρ = .ex x τ := id rfl
@[simp] theorem eSMeN2_ok {q : Nat} : eSMeN2 (.ok as τ) k F q = if as.length + 1 = k then (F (.fr (.ptr q) :: as) τ).nox else .no := id rfl
def eMkS2 (r : R (List PV)) (k n m : Nat) (cls : PySem.Str) (F : Fn) (g : List PV → List PV → List PV) (as : List PV) : R DD := r.bind fun bs τ2 => if as.length = n ∧ bs.length = m then mkS k cls F (g as bs) τ2 else .no
def eMkS1 (r : R (List PV)) (k n m : Nat) (cls : PySem.Str) (F : Fn) (g : List PV → List PV → List PV) (b : DPs) (ρ : PEnv) : R DD := r.bind fun as τ1 => eMkS2 (b ρ τ1) k n m cls F g as
@[simp] theorem ev_MkS : dMkS k n m cls F g r s ρ τ = eMkS1 (r ρ τ) k n m cls F g s ρ := id rfl
@[simp] theorem eMkS1_ok : eMkS1 (.ok as τ) k n m cls F g s ρ = eMkS2 (s ρ τ) k n m cls F g as := id rfl
@[simp] theorem eMkS2_ok : eMkS2 (.ok bs τ) k n m cls F g as = if as.length = n ∧ bs.length = m then mkS k cls F (g as bs) τ else .no := id rfl
def eMkR (r : R DD) (k : Nat) : R DD := r.bind fun d τ3 => match d with
  | .non => .ok (.ptr k) τ3
  | _ => .no
@[simp] theorem eMkR_ok : eMkR (.ok .non τ) k = .ok (.ptr k) τ := id rfl
@[simp] theorem eMkR_ex {x : Ex} : eMkR (.ex x τ) k = .ex x τ := id rfl
end
end Np
set_option Elab.async false
set_option linter.all false
set_option maxRecDepth 100000
set_option maxHeartbeats 4000000
namespace Np
open PySem PySem.Spec PyProof.Rows L2
def shV (a : Int) (val : Nat → Int) : Nat → Int
  | 0 => a
  | i + 1 => val i
def shP (P : Nat → Value → Prop) : Nat → Value → Prop
  | 0, _ => False
  | i + 1, v => P i v
def shSt (St : Nat → Heap → Prop) : Nat → Heap → Prop
  | 0, _ => False
  | i + 1, h => St i h
theorem shSum (a : Int) (val : Nat → Int) : ∀ n, preSum (shV a val) (n + 1) = a + preSum val n
  | 0 => by show (0 : Int) + a = a + 0; omega
  | n + 1 => by
    show preSum (shV a val) (n + 1) + val n = a + (preSum val n + val n)
    rw [shSum a val n]; omega
section
variable {prog : Program} {w : World} {A : Around} {I : Addr} {fp wr : List Addr} {n : Nat} {P : Nat → Value → Prop} {St : Nat → Heap → Prop}
theorem shWalks (Wk : Walks prog w A I fp wr n P St) : Walks prog w A I fp wr (n + 1) (shP P) (shSt St) := by
  refine ⟨Wk.sub, fun i h h' st k => ?_, fun i s Q E hi st hq => ?_, fun s Q E st hq => Wk.done s Q E st hq, fun i s Q E st hq => ?_⟩
  · cases i with
    | zero => exact st.elim
    | succ i => exact Wk.frame i h h' st k
  · cases i with
    | zero => exact st.elim
    | succ i => exact Wk.item i s Q E (Nat.lt_of_succ_lt_succ hi) st hq
  · cases i with
    | zero => exact st.elim
    | succ i => exact Wk.self i s Q E st hq
end
theorem args_sumS (a v : Value) : argsOk "sum" ⟨[a], [(Str.ofString "start", v)]⟩ := by unfold argsOk; kernel_rfl
section
variable {prog : Program} {w : World} {A : Around} {E : Value → Shared → Prop} {s : Shared}
theorem sum_startW {x : Value} {a : Int} {t : Tok} {Q : Value → Shared → Prop}
    (hx : wpAny (model prog w) A.in1 (pyIter x) (fun it s₂ => ∃ I fp wr n P St val, it = .ref I ∧ Walks prog w A.in1 I fp wr n P St ∧ St 0 s₂.heap ∧ (∀ b ∈ fp, b < s₂.heap.objs.size) ∧
      (∀ i v, P i v → ∃ t, v = .int (val i) t) ∧
      ∀ h' tk t', (∀ b o, b ∉ wr → s₂.heap.get? b = some o → h'.get? b = some o) → Q (.int (a + preSum val n) t') { s₂ with heap := h', toks := tk }) E s) :
    wpAny (model prog w) A (call (.builtin "sum") [x] [(Str.ofString "start", .int a t)]) Q E s := by
  refine kmk_tree PySem.F.kind_sum PySem.F.plain_sum PySem.F.entry_sum (args_sumS _ _) ?_
  unfold Builtin.«sum»
  simp only [List.length_cons, List.length_nil]
  rw [if_neg (by decide)]
  refine wpAny_bind (wpAny_of_eq (show Builtin.Builtins.bindParams "sum" ["start"] 0 ⟨[], [(Str.ofString "start", .int a t)]⟩ = pure [some (.int a t)] from rfl) ?_)
  refine wpAny_bind (wpAny_mono hx (fun it s2 hit => ?_) fun _ _ z => z)
  obtain ⟨I, fp, wr, n, P, St, val, rfl, Wk, hst, hfp, hval, hQ⟩ := hit
  dsimp only
  have hSn : s2.heap.objs.size ∉ fp := fun hm => Nat.lt_irrefl _ (hfp _ hm)
  have hv : ∀ i v, shP P i v → ∃ t, v = .int (shV a val i) t := fun i v hp => by
    cases i with
    | zero => exact hp.elim
    | succ i => exact hval i v hp
  have e1 : preSum (shV a val) 1 = a := by show (0 : Int) + a = a; omega
  split
  · refine wpAny_bind (wpAny_rule (wpAny_bind (wpAny_mkInt (wpAny_bind (wpAny_pure ?_)))))
    dsimp only
    simp only [List.forIn_cons, List.forIn_nil]
    refine wpAny_bind (wpAny_bind (wpAny_bind (wpAny_isInstance (T := "int") (b := false) (typeIs_int _ _ _) PySem.sub_int_str ?_)))
    simp only [Bool.false_eq_true, if_false]
    refine wpAny_pure (wpAny_bind (wpAny_bind (wpAny_isInstance (T := "int") (b := false) (typeIs_int _ _ _) PySem.sub_int_bytes ?_)))
    simp only [Bool.false_eq_true, if_false]
    refine wpAny_pure (wpAny_bind (wpAny_bind (wpAny_isInstance (T := "int") (b := false) (typeIs_int _ _ _) PySem.sub_int_bytearray ?_)))
    simp only [Bool.false_eq_true, if_false]
    refine wpAny_pure (wpAny_pure (wpAny_bind (wpAny_newObj_type ?_)))
    refine wpAny_pure ⟨plainId_quiet PySem.F.plain_sum_loop _, codeAny_sum_loopG (shWalks Wk) (shV a val) hv s2.heap.objs.size hSn n 1 _ s2.toks 0 0 (.inl rfl) (by omega) (by omega)
      (Wk.frame _ _ _ hst fun b _ o e => Heap.get?_push_of_some _ e) ?_ fun h' tk t' hk => ?_⟩
    · rw [e1]
      exact Heap.get?_push_size _ rfl
    · rw [shSum]
      exact hQ h' tk t' fun b o hb e => hk b o hb (Nat.ne_of_lt (Heap.lt_size e)) (Heap.get?_push_of_some _ e)
  · refine wpAny_bind (wpAny_pure ?_)
    dsimp only
    simp only [List.forIn_cons, List.forIn_nil]
    refine wpAny_bind (wpAny_bind (wpAny_bind (wpAny_isInstance (T := "int") (b := false) (typeIs_int _ _ _) PySem.sub_int_str ?_)))
    simp only [Bool.false_eq_true, if_false]
    refine wpAny_pure (wpAny_bind (wpAny_bind (wpAny_isInstance (T := "int") (b := false) (typeIs_int _ _ _) PySem.sub_int_bytes ?_)))
    simp only [Bool.false_eq_true, if_false]
    refine wpAny_pure (wpAny_bind (wpAny_bind (wpAny_isInstance (T := "int") (b := false) (typeIs_int _ _ _) PySem.sub_int_bytearray ?_)))
    simp only [Bool.false_eq_true, if_false]
    refine wpAny_pure (wpAny_pure (wpAny_bind (wpAny_newObj_type ?_)))
    refine wpAny_pure ⟨plainId_quiet PySem.F.plain_sum_loop _, codeAny_sum_loopG (shWalks Wk) (shV a val) hv s2.heap.objs.size hSn n 1 _ t 0 2 (.inr rfl) (by omega) (by omega)
      (Wk.frame _ _ _ hst fun b _ o e => Heap.get?_push_of_some _ e) ?_ fun h' tk t' hk => ?_⟩
    · rw [e1]
      exact Heap.get?_push_size _ rfl
    · rw [shSum]
      exact hQ h' tk t' fun b o hb e => hk b o hb (Nat.ne_of_lt (Heap.lt_size e)) (Heap.get?_push_of_some _ e)
end
section
variable {prog : Program} {w : World} {A : Around} {E : Value → Shared → Prop} {s : Shared} {l : Addr} {its : List Value} {ns : List Int} {a : Int} {t : Tok} {Q : Value → Shared → Prop}
theorem sum_startI (hh : A.handled = none) (hl : s.heap.IsList l its.toArray) (hi : IntsAre its ns)
    (hq : ∀ h' tk t', (∀ b o, s.heap.get? b = some o → h'.get? b = some o) → Q (.int (a + ns.sum) t') { s with heap := h', toks := tk }) : wpAny (model prog w) A (call (.builtin "sum") [.ref l] [(Str.ofString "start", .int a t)]) Q E s := by
  obtain ⟨xs, e⟩ := hi.allInts.items
  have hn : ((intItems xs).toList |> numsOf) = ns := e ▸ hi.numsOf
  rw [nums_intItems] at hn
  rw [e] at hl
  refine sum_startW (iter_intList hl fun s2 e2 st hfp hlI => ?_)
  subst e2
  refine ⟨_, _, _, _, _, _, numAt xs, rfl, Walks.list (A := A.in1) hh _ l hlI (intItems xs), st, hfp, (fun _ _ => intItems_at), fun h' tk t' hk => ?_⟩
  have q := hq h' tk t' (old_kept hk)
  have es : preSum (numAt xs) (intItems xs).size = ns.sum := by
    rw [preSum_eq, List.take_of_length_le (by simp [intItems]), hn]
  rw [es]
  exact q
end
def rSumS (K : PySem.W.Frag) : List V → List V → Hp → VK → Prop := fun vs zs H Q => ∃ (l : Addr) (ns : List Int) (a : Int), vs = [.ref l] ∧ zs = [.int a] ∧ SqL K H l (ns.map V.int) ∧ Q (.int (a + ns.sum)) H
theorem cr_sumS {X : Cx} (hc : X.calm = true) (K : PySem.W.Frag) (hK : X.K = K := by rfl) : CallRK X (.builtin "sum") [Str.ofString "start"] (rSumS K) := by
  subst hK
  intro pins s σ H vs zs us ws Q I r rz h
  obtain ⟨l, ns, a, rfl, rfl, hl, q⟩ := h
  obtain rfl := Vals.ref1 r
  cases rz with | cons rz rr =>
  cases rr
  obtain ⟨t0, rfl⟩ := rz
  obtain ⟨its, rv, pl, _⟩ := I.list hl
  show wpAny _ _ (call (.builtin "sum") [.ref l] [(Str.ofString "start", .int a _)]) _ _ _
  exact sum_startI (I.ok.hd hc) pl.isList rv.ints fun h' tk t' hk => ⟨.int _, H, I.kept hk, ⟨t', rfl⟩, q⟩
def gSumS : List DD → List DD → Option DD
  | [.lst ds], [.int a] => (ints? ds).map fun ns => .int (a + ns.sum)
  | _, _ => none
def dSumS (a b : DA) : DE := fun ρ τ => (a ρ τ).bind fun xs τ1 => (b ρ τ1).bind fun ys τ2 => R.of τ2 (gSumS xs ys)
section
variable {W : Wp} {Wx : L2.St → XK} {ta tb : TA} {δa δb : DA}
theorem dn_sumS (ha : DnA W Wx ta δa) (hb : DnA W Wx tb δb) : Dn W Wx (tCKw (rSumS W.K) ta tb) (dSumS δa δb) := fun tp G H σ ρ τ Q E P =>
  ha _ _ _ _ _ _ _ E (P.bind fun as τ1 vs G1 H1 e1 E1 r1 P1 => hb _ _ _ _ _ _ _ E1 (P1.bind fun bs τ2 us G2 H2 e2 E2 r2 P2 => by
    obtain ⟨d, hd, P3⟩ := P2.of
    unfold gSumS at hd
    split at hd
    · rename_i ds a
      obtain ⟨ns, h1, h2⟩ := Option.map_eq_some_iff.mp hd
      cases h2
      cases ints?_eq h1
      cases r1 with | cons r rr =>
      cases rr
      have r := Rp.mono e2.g r
      cases r with | lst hl ra =>
      cases r2 with | cons r' rr =>
      cases rr
      have z := r'.int_of
      subst z
      exact ⟨_, ns, a, rfl, rfl, by rw [← ra.ints_of]; exact SqL.of (E2.g _ _ hl), P3 _ G2 H2 Ext.refl E2 (.int _)⟩
    · cases hd))
end
def leS (a b : Str) : Bool := decide (a.cps.toList ≤ b.cps.toList)
def srtS (xs : List Str) : List Str := xs.mergeSort leS
theorem leS_tr (a b c : Str) (h1 : leS a b = true) (h2 : leS b c = true) : leS a c = true := by
  unfold leS at *
  simp only [decide_eq_true_eq] at *
  exact List.le_trans h1 h2
theorem leS_tot (a b : Str) : (leS a b || leS b a) = true := by
  unfold leS
  simp only [Bool.or_eq_true, decide_eq_true_eq]
  exact List.le_total _ _
theorem leS_anti {a b : Str} (h1 : leS a b = true) (h2 : leS b a = true) : a = b := by
  unfold leS at *
  simp only [decide_eq_true_eq] at *
  have e := List.le_antisymm h1 h2
  cases a with | mk a =>
  cases b with | mk b =>
  have e : a.toList = b.toList := e
  exact congrArg Str.mk (Array.toList_inj.mp e)
theorem srtS_perm (xs : List Str) : (srtS xs).Perm xs := List.mergeSort_perm _ _
theorem srtS_pw (xs : List Str) : (srtS xs).Pairwise fun a b => leS a b = true := List.pairwise_mergeSort leS_tr leS_tot xs
theorem srtS_eq {xs ys : List Str} (hp : ys.Perm xs) (hs : ys.Pairwise fun a b => leS a b = true) : ys = srtS xs :=
  List.Perm.eq_of_pairwise (fun _ _ _ _ h1 h2 => leS_anti h1 h2) hs (srtS_pw xs) (hp.trans (srtS_perm xs).symm)
theorem le_of_rise {p x : Str} (h : ltCps x.cps.toList p.cps.toList = false) : leS p x = true := by
  rw [ltCps_eq] at h
  have h := of_decide_eq_false h
  unfold leS
  simp only [decide_eq_true_eq]
  exact List.not_lt.mp h
theorem rises_pw : ∀ (p : Str) (l : List Str), risingS p l = true → (p :: l).Pairwise fun a b => leS a b = true
  | p, [], _ => List.pairwise_singleton _ _
  | p, x :: r, h => by
    unfold risingS at h
    rw [Bool.and_eq_true, Bool.not_eq_true'] at h
    have q := rises_pw x r h.2
    refine List.pairwise_cons.mpr ⟨fun y hy => ?_, q⟩
    rcases List.mem_cons.mp hy with rfl | hy
    · exact le_of_rise h.1
    · exact leS_tr _ _ _ (le_of_rise h.1) ((List.pairwise_cons.mp q).1 y hy)
theorem sorted_pw : ∀ {l : List Str}, sortedS l = true → l.Pairwise fun a b => leS a b = true
  | [], _ => List.Pairwise.nil
  | x :: r, h => rises_pw x r h
theorem RpA.strsD {K : PySem.W.Frag} {cm : CM} {H : GH} : ∀ ns : List Str, RpA K cm H (ns.map V.str) (ns.map DD.str)
  | [] => .nil
  | n :: ns => .cons (.str n) (RpA.strsD ns)
def gSrtT : DD → Option DD
  | .lst ds => (strs? ds).bind fun ns => if ns.length < 64 then some (.lst ((srtS ns).map DD.str)) else none
  | _ => none
theorem cd_srtT {W : Wp} : CallD W (rSortedS W.K) (c1 gSrtT) := by
  intro G H x a c Q s ra e k
  replace e := c1_eq e
  obtain ⟨d, rfl, e⟩ := e
  cases ra with | cons r rs =>
  cases rs
  cases r <;> first | (cases e; done) | skip
  rename_i h r
  obtain ⟨ns, h1, h2⟩ := Option.bind_eq_some_iff.mp e
  split at h2
  · rename_i hl
    cases h2
    cases strs?_eq h1
    refine ⟨_, ns, rfl, by rw [← r.strs_of]; exact SqL.of (s _ _ h), hl, fun ms p hp hs hn => ?_⟩
    rw [srtS_eq hp (sorted_pw hs)]
    exact k _ _ _ (Ext.new hn s) (s.both hn) (.lst upd_same (RpA.strsD _))
  · cases h2
theorem cr_srtTK {X : Cx} (K : PySem.W.Frag) (h : X.K = K := by rfl) : CallR X (.builtin "sorted") (rSortedS K) := by subst h; exact cr_sortedS
end Np
set_option Elab.async false
set_option linter.all false
set_option maxRecDepth 100000
set_option maxHeartbeats 4000000
namespace Np
open PySem PySem.Spec PyProof.Rows L2
end Np
set_option Elab.async false
set_option linter.all false
set_option maxRecDepth 100000
set_option maxHeartbeats 4000000
namespace Np
open PySem PySem.Spec PyProof.Rows L2 LamX
end Np
set_option Elab.async false
set_option linter.all false
set_option maxRecDepth 100000
set_option maxHeartbeats 4000000
namespace Np
open PySem PySem.Spec PyProof.Rows L2
section
variable {W : Wp} {Wx : L2.St → XK} {tp : Option Addr} {G G' : GH} {H H' : Hp} {σ : L2.St} {ρ : PEnv} {τ : TS'}
theorem RpA.mapD {f : DD → DD} : ∀ {vs : List V} {ds : List DD}, (∀ v d, Rp W.K W.cm G v d → Rp W.K W.cm G' v (f d)) → RpA W.K W.cm G vs ds → RpA W.K W.cm G' vs (ds.map f)
  | _, _, _, .nil => .nil
  | _, _, h, .cons a r => .cons (h _ _ a) (RpA.mapD h r)
variable {te tx : TE} {δe δx : DE} {tc : TT} {δc : DT} {tr : TA} {δr : DPs}
def dFldA (cls f : Str) (a : DE) : DE := fun ρ τ => (a ρ τ).bind fun x τ1 => match x with
  | .obj C fs => if C = cls then R.of τ1 (fs.lookup f) else .no
  | .ptr k => match τ1 with
    | some t => (match objAt t.st k with
      | some (C, fs) => if C = cls then R.of τ1 (fs.lookup f) else .no
      | none => .no)
    | none => .no
  | _ => .no
def dMeNA (k : Nat) (cls m : Str) (F : Fn) (a : DE) (r : DPs) : DE := fun ρ τ => (a ρ τ).bind fun x τ1 => match x with
  | .obj C fs => if C = cls ∧ fs.lookup m = none then (r ρ τ1).bind fun as τ2 => if as.length + 1 = k then (F (.fr (.obj C fs) :: as) τ2).nox else .no
    else .no
  | .ptr q => match τ1 with
    | some t => (match objAt t.st q with
      | some (C, fs) => if C = cls ∧ fs.lookup m = none then (r ρ τ1).bind fun as τ2 => if as.length + 1 = k then (F (.fr (.ptr q) :: as) τ2).nox else .no
        else .no
      | none => .no)
    | none => .no
  | _ => .no
end
section
variable {ρ : PEnv} {τ τ1 τ2 : TS'} {t : Tau} {e a : DE} {c : DT} {r : DPs} {i k q : Nat} {xs : List DD} {d y : DD} {b : Bool} {C cls f mm : Str} {fs : List (Str × DD)} {F : Fn} {as : List PV}
def eFldA (r : R DD) (cls f : Str) : R DD := r.bind fun x τ1 => match x with
  | .obj C fs => if C = cls then R.of τ1 (fs.lookup f) else .no
  | .ptr k => match τ1 with
    | some t => (match objAt t.st k with
      | some (C, fs) => if C = cls then R.of τ1 (fs.lookup f) else .no
      | none => .no)
    | none => .no
  | _ => .no
@[simp] theorem ev_FldA : dFldA cls f a ρ τ = eFldA (a ρ τ) cls f := id rfl
@[simp] theorem eFldA_obj : eFldA (.ok (.obj cls fs) τ) cls f = R.of τ (fs.lookup f) := if_pos rfl
@[simp] theorem eFldA_at (h : objAt t.st k = some (cls, fs)) : eFldA (.ok (.ptr k) (some t)) cls f = R.of (some t) (fs.lookup f) := by
  show (match objAt t.st k with | some (C, fs) => _ | none => _) = _
  rw [h]
  exact if_pos rfl
def eMeNA2 (r : R (List PV)) (k : Nat) (F : Fn) (x : DD) : R DD := r.bind fun as τ2 => if as.length + 1 = k then (F (.fr x :: as) τ2).nox else .no
def eMeNA (r : R DD) (k : Nat) (cls m : Str) (F : Fn) (ps : DPs) (ρ : PEnv) : R DD := r.bind fun x τ1 => match x with
  | .obj C fs => if C = cls ∧ fs.lookup m = none then eMeNA2 (ps ρ τ1) k F (.obj C fs) else .no
  | .ptr q => match τ1 with
    | some t => (match objAt t.st q with
      | some (C, fs) => if C = cls ∧ fs.lookup m = none then eMeNA2 (ps ρ τ1) k F (.ptr q) else .no
      | none => .no)
    | none => .no
  | _ => .no
@[simp] theorem ev_MeNA : dMeNA k cls mm F a r ρ τ = eMeNA (a ρ τ) k cls mm F r ρ := id rfl
@[simp] theorem eMeNA_obj : eMeNA (.ok (.obj cls fs) τ) k cls mm F r ρ = if fs.lookup mm = none then eMeNA2 (r ρ τ) k F (.obj cls fs) else .no := by
  show (if cls = cls ∧ fs.lookup mm = none then _ else _) = _
  simp only [true_and]
@[simp] theorem eMeNA_at (h : objAt t.st q = some (cls, fs)) : eMeNA (.ok (.ptr q) (some t)) k cls mm F r ρ = if fs.lookup mm = none then eMeNA2 (r ρ (some t)) k F (.ptr q) else .no := by
  show (match objAt t.st q with | some (C, fs) => _ | none => _) = _
  rw [h]
  simp only [true_and]
@[simp] theorem eMeNA2_ok {x : DD} : eMeNA2 (.ok as τ) k F x = if as.length + 1 = k then (F (.fr x :: as) τ).nox else .no := id rfl
end
end Np
set_option Elab.async false
set_option linter.all false
set_option maxRecDepth 100000
namespace Np
open PySem PySem.Spec PyProof.Rows L2
section
variable {ρ : PEnv} {τ τ' : TS'} {F : Fn} {a : DA}
noncomputable def eMinK (F : Fn) (r : R (List DD)) : R DD := r.bind fun xs τ1 => match xs with
  | [.lst ds] => R.of τ1 (gMinK F ds)
  | _ => .no
@[simp] theorem ev_MinK : dMinK F a ρ τ = eMinK F (a ρ τ) := id rfl
@[simp] theorem eMinK_ok {ds : List DD} : eMinK F (.ok [.lst ds] τ) = R.of τ (gMinK F ds) := id rfl
def zpA? : List DD → Option (List DD)
  | [.lst ds, .lst es] => some (zipD ds es)
  | [.tup ds, .tup es] => some (zipD ds es)
  | _ => none
@[simp] theorem zpA?_l {ds es : List DD} : zpA? [.lst ds, .lst es] = some (zipD ds es) := id rfl
@[simp] theorem zpA?_t {ds es : List DD} : zpA? [.tup ds, .tup es] = some (zipD ds es) := id rfl
@[simp] theorem ev_IZipA : dIZipA a ρ τ = eUn (a ρ τ) zpA? := by
  unfold dIZipA eUn
  congr 1
  funext x τ1
  unfold zpA?
  rcases x with _ | ⟨d, _ | ⟨e, _ | ⟨f, x⟩⟩⟩
  · rfl
  · cases d <;> rfl
  · cases d <;> cases e <;> first | rfl | (dsimp only [R.of]; split <;> rfl)
  · cases d <;> cases e <;> rfl
end
end Np
set_option Elab.async false
set_option linter.all false
set_option maxRecDepth 100000
namespace Np
open PySem PySem.Spec PyProof.Rows L2
section
variable {ρ : PEnv} {τ τ' : TS'} {a : DA} {δ δh : DS} {exm : PySem.Str → Option Bool} {i : Nat} {x : Ex} {d : DD}
def eTh (o : Option Bool) (x : Ex) (ρ1 : PEnv) (τ1 : TS') (i : Nat) (δh : DS) : R Ct := match o with
  | some true => clrI i (δh (ρ1.set i (some (.fr (.exc x.cls x.fs)))) τ1)
  | some false => .ok (.xc x ρ1) τ1
  | none => .no
def eTryH (r : R Ct) (exm : PySem.Str → Option Bool) (i : Nat) (δh : DS) : R Ct := match r with
  | .ok (.xc x ρ1) τ1 => eTh (exm x.cls) x ρ1 τ1 i δh
  | r => r
@[simp] theorem ev_TryH : dTryH exm i δ δh ρ τ = eTryH (δ ρ τ) exm i δh := id rfl
@[simp] theorem eTryH_nx : eTryH (.ok (.nx ρ) τ) exm i δh = .ok (.nx ρ) τ := id rfl
@[simp] theorem eTryH_rt : eTryH (.ok (.rt d) τ) exm i δh = .ok (.rt d) τ := id rfl
@[simp] theorem eTryH_bk : eTryH (.ok (.bk ρ) τ) exm i δh = .ok (.bk ρ) τ := id rfl
@[simp] theorem eTryH_ct : eTryH (.ok (.ct ρ) τ) exm i δh = .ok (.ct ρ) τ := id rfl
@[simp] theorem eTryH_xc : eTryH (.ok (.xc x ρ) τ) exm i δh = eTh (exm x.cls) x ρ τ i δh := id rfl
@[simp] theorem eTh_t : eTh (some true) x ρ τ i δh = clrI i (δh (ρ.set i (some (.fr (.exc x.cls x.fs)))) τ) := id rfl
@[simp] theorem clrI_nx : clrI i (.ok (.nx ρ) τ) = .ok (.nx (ρ.set i none)) τ := id rfl
@[simp] theorem clrI_bk : clrI i (.ok (.bk ρ) τ) = .ok (.bk (ρ.set i none)) τ := id rfl
@[simp] theorem clrI_ct : clrI i (.ok (.ct ρ) τ) = .ok (.ct (ρ.set i none)) τ := id rfl
@[simp] theorem clrI_rt : clrI i (.ok (.rt d) τ) = .ok (.rt d) τ := id rfl
def enT? : List DD → Option (List DD)
  | [.tup ds] => some (enumD ds)
  | _ => none
@[simp] theorem enT?_eq {ds : List DD} : enT? [.tup ds] = some (enumD ds) := id rfl
@[simp] theorem ev_IEnumT : dIEnumT a ρ τ = eUn (a ρ τ) enT? := by
  unfold dIEnumT eUn
  congr 1
  funext x τ1
  unfold enT?
  rcases x with _ | ⟨d, _ | ⟨e, x⟩⟩
  · rfl
  · cases d <;> first | rfl | (dsimp only [R.of]; split <;> rfl)
  · cases d <;> rfl
def eMinD (r : R (List DD)) : R DD := r.bind fun xs τ1 => match xs with
  | [.lst ds] => R.of τ1 (gMinD ds)
  | _ => .no
@[simp] theorem ev_MinD : dMinD a ρ τ = eMinD (a ρ τ) := id rfl
@[simp] theorem eMinD_ok {ds : List DD} : eMinD (.ok [.lst ds] τ) = R.of τ (gMinD ds) := id rfl
@[simp] theorem eCons1_x {r : DA} : eCons1 (.ex x τ) r ρ = .ex x τ := id rfl
@[simp] theorem eCons2_x : eCons2 (.ex x τ) d = .ex x τ := id rfl
@[simp] theorem eSeqD_x {f : List DD → DD} : eSeqD (.ex x τ) f = .ex x τ := id rfl
@[simp] theorem eRet_x : eRet (.ex x τ) ρ = .ok (.xc x ρ) τ := id rfl
def en (k : Nat) : List DD → List DD
  | [] => []
  | d :: ds => .tup [.int (k : Int), d] :: en (k + 1) ds
end
end Np
set_option Elab.async false
set_option linter.all false
set_option maxRecDepth 100000
namespace Np
open PySem PySem.Spec PyProof.Rows L2
section
variable {ρ : PEnv} {τ τ' : TS'} {a : DA} {δ δh : DS} {exm : PySem.Str → Option Bool} {i : Nat} {x : Ex} {d : DD}
def eThO (o : Option Bool) (x : Ex) (ρ1 : PEnv) (τ1 : TS') (δh : DS) : R Ct := match o with
  | some true => noX (δh ρ1 τ1)
  | some false => .ok (.xc x ρ1) τ1
  | none => .no
def eTryO (r : R Ct) (exm : PySem.Str → Option Bool) (δh : DS) : R Ct := match r with
  | .ok (.xc x ρ1) τ1 => eThO (exm x.cls) x ρ1 τ1 δh
  | r => r
@[simp] theorem ev_TryO : dTryO exm δ δh ρ τ = eTryO (δ ρ τ) exm δh := id rfl
@[simp] theorem eTryO_nx : eTryO (.ok (.nx ρ) τ) exm δh = .ok (.nx ρ) τ := id rfl
@[simp] theorem eTryO_rt : eTryO (.ok (.rt d) τ) exm δh = .ok (.rt d) τ := id rfl
@[simp] theorem eTryO_bk : eTryO (.ok (.bk ρ) τ) exm δh = .ok (.bk ρ) τ := id rfl
@[simp] theorem eTryO_ct : eTryO (.ok (.ct ρ) τ) exm δh = .ok (.ct ρ) τ := id rfl
@[simp] theorem eTryO_xc : eTryO (.ok (.xc x ρ) τ) exm δh = eThO (exm x.cls) x ρ τ δh := id rfl
@[simp] theorem eThO_t : eThO (some true) x ρ τ δh = noX (δh ρ τ) := id rfl
@[simp] theorem eThO_f : eThO (some false) x ρ τ δh = .ok (.xc x ρ) τ := id rfl
@[simp] theorem noX_nx : noX (.ok (.nx ρ) τ) = .ok (.nx ρ) τ := id rfl
@[simp] theorem noX_bk : noX (.ok (.bk ρ) τ) = .ok (.bk ρ) τ := id rfl
@[simp] theorem noX_ct : noX (.ok (.ct ρ) τ) = .ok (.ct ρ) τ := id rfl
@[simp] theorem noX_rt : noX (.ok (.rt d) τ) = .ok (.rt d) τ := id rfl
end
end Np
set_option Elab.async false
set_option linter.all false
set_option maxRecDepth 100000
set_option maxHeartbeats 4000000
namespace Np
open PySem PySem.Spec PyProof.Rows L2
section
variable {ρ : PEnv} {τ τ1 τ2 τ3 : TS'} {a b : DA} {o e y : DE} {r s : DPs} {i j k n m : Nat} {F : Fn} {as bs : List PV} {cls f : PySem.Str} {fs fs1 : List (PySem.Str × DD)} {d v z : DD} {t t1 : Tau} {ns : List Int} {g : DD → DD → Option DD}
theorem sumS_ok (ha : a ρ τ = .ok [.lst (ns.map DD.int)] τ1) (hb : b ρ τ1 = .ok [.int j'] τ2) : dSumS a b ρ τ = .ok (.int (j' + ns.sum)) τ2 := by
  unfold dSumS
  rw [ha, R.bind_ok, hb, R.bind_ok]
  unfold gSumS
  simp
theorem gSrtT_eq {xs : List PySem.Str} (h : xs.length < 64) : gSrtT (.lst (xs.map DD.str)) = some (.lst ((srtS xs).map DD.str)) := by
  unfold gSrtT
  dsimp only
  rw [strs?_map]
  exact if_pos h
end
end Np
set_option Elab.async false
set_option linter.all false
set_option maxRecDepth 100000
set_option maxHeartbeats 4000000
namespace Np
open PySem PySem.Spec PyProof.Rows L2
def gRepT : DD → DD → Option DD
  | .tup a, .int k => if a ≠ [] ∧ -(2 ^ 63) ≤ k ∧ k ≤ 1 then some (.tup (if k = 1 then a else [])) else none
  | _, _ => none
section
variable {W : Wp} {Wx : L2.St → XK} {ta te : TE} {δa δ : DE}
@[simp] theorem gRepT_eq {a : List DD} {k : Int} : gRepT (.tup a) (.int k) = if a ≠ [] ∧ -(2 ^ 63) ≤ k ∧ k ≤ 1 then some (.tup (if k = 1 then a else [])) else none := id rfl
end
def gRevT : DD → Option DD
  | .tup ds => some (.tup ds.reverse)
  | _ => none
@[simp] theorem gRevT_eq {ds : List DD} : gRevT (.tup ds) = some (.tup ds.reverse) := id rfl
def dIsXN (kit : Str → Option Bool) (a : DE) : DE := fun ρ τ => (a ρ τ).bind fun x τ1 => match x with
  | .exc C _ => R.of τ1 ((kit C).map .bl)
  | .non => .ok (.bl false) τ1
  | _ => .no
section
variable {W : Wp} {Wx : L2.St → XK} {ta te : TE} {δa δ : DE}
def eIsXN (kit : Str → Option Bool) (x : R DD) : R DD := x.bind fun x τ1 => match x with
  | .exc C _ => R.of τ1 ((kit C).map .bl)
  | .non => .ok (.bl false) τ1
  | _ => .no
variable {ρ : PEnv} {τ : TS'} {kit : Str → Option Bool}
@[simp] theorem ev_IsXN : dIsXN kit δ ρ τ = eIsXN kit (δ ρ τ) := id rfl
@[simp] theorem eIsXN_exc {C : Str} {fs : List (Str × DD)} : eIsXN kit (.ok (.exc C fs) τ) = R.of τ ((kit C).map .bl) := id rfl
@[simp] theorem eIsXN_non : eIsXN kit (.ok .non τ) = .ok (.bl false) τ := id rfl
@[simp] theorem eIsXN_ex {x : Ex} : eIsXN kit (.ex x τ) = .ex x τ := id rfl
end
end Np
set_option Elab.async false
set_option linter.all false
set_option maxRecDepth 100000
set_option maxHeartbeats 4000000
namespace Np
open PySem PySem.Spec PyProof.Rows L2
end Np
set_option Elab.async false
set_option linter.all false
set_option maxRecDepth 100000
set_option maxHeartbeats 4000000
namespace Np
open PySem PySem.Spec PyProof.Rows L2
def derefA (st : List Nd) : DD → DD
  | .ptr k => match st[k]? with
    | some (.fz d) => d
    | some nd => (ddOf nd).getD (.ptr k)
    | none => .ptr k
  | d => d
end Np
set_option Elab.async false
set_option linter.all false
set_option maxRecDepth 100000
set_option maxHeartbeats 4000000
namespace Np
open PySem PySem.Spec PyProof.Rows L2
end Np
set_option Elab.async false
set_option linter.all false
set_option maxRecDepth 100000
set_option maxHeartbeats 4000000
namespace Np
open PySem PySem.Spec PyProof.Rows L2
section
variable {W : Wp} {Wx : L2.St → XK} {tp0 tp : Option Addr} {G0 G : GH} {H0 H : Hp} {σ : L2.St} {ρ : PEnv} {τ : TS'} {t : TS} {δt : DS} {tr : TA} {δr : DPs}
def derefT (st : List Nd) : DD → DD
  | .tup xs => .tup (xs.map (derefA st))
  | d => derefA st d
theorem look {t : Tau} (E : EnvV W tp G H σ ρ (some t)) : ∃ G1, GS G G1 ∧ EnvV W none G1 H σ (ρ.map hid) none ∧ ∀ v d, Rp W.K W.cm G v d → Rp W.K W.cm G1 v (derefT t.st d) := by
  cases tp with
  | none => exact E.t.elim
  | some a =>
    have t0 : TapeR W G H a t := E.t
    let F : List Addr := G.ads.filter fun q => decide (G.hp q = none)
    have hF : ∀ q ∈ F, G q = none ∧ q ∈ G.ads := fun q hq => by
      have := List.mem_filter.mp hq
      exact ⟨of_decide_eq_true this.2, this.1⟩
    have E2 := E.hide.freezeF (F := F) (fun q hq => ⟨(hF q hq).1, NoM.none⟩) (fun q hq => t0.s.nt q (hF q hq).2) (fun q hq j c b F1 h1 h2 w hp => by
      obtain ⟨F2, w2, gn⟩ := E.own (hid_ow h1) h2
      cases w2.uniq w
      exact ((gn q hp).2 a rfl).2 (hF q hq).2)
    have s2 : GS G (upF G H F) := upF_same fun q hq => (hF q hq).1
    have ins : ∀ p o, p ∈ G.ads → H p = some o → (upF G H F).hp p = some o := fun p o hp ho => by
      by_cases z : p ∈ F
      · rw [upF_in p z]; exact ho
      · rw [upF_out z]
        cases hg : G.hp p with
        | none => exact absurd (List.mem_filter.mpr ⟨hp, decide_eq_true hg⟩) z
        | some o' => rw [E.g.s _ _ hg] at ho; exact ho
    have one : ∀ v d, Rp W.K W.cm G v d → Rp W.K W.cm (upF G H F) v (derefA t.st d) := fun v d r => by
      cases d <;> first | exact r.mono s2 | skip
      rename_i k
      unfold derefA
      dsimp only
      split
      · rename_i d' ho
        obtain ⟨_, p, _, rfl, hm, hk, _, hn⟩ := E.sto r ho
        exact hn.mono s2
      · rename_i nd nf ho
        obtain ⟨_, p, _, rfl, hm, hk, hn⟩ := E.sto r ho
        cases nd with
        | lst xs => obtain ⟨vs, hv, rr⟩ := hn; exact .lst (ins p _ hm hv) (rr.mono s2)
        | dK xs => obtain ⟨vs, hv, rr⟩ := hn; exact .dic (ins p _ hm hv) (rr.mono s2)
        | obj C fs => obtain ⟨dx, vs, hv, rr⟩ := hn; exact .obj (ins p _ hm hv) (rr.mono s2)
        | gone => exact r.mono s2
        | dT xs => exact r.mono s2
        | fz d => exact absurd rfl (nf d)
      · exact r.mono s2
    refine ⟨_, s2, E2, fun v d r => ?_⟩
    cases d <;> first | exact one v _ r | skip
    cases r with | tup h ra => exact .tup (s2.s _ _ h) (RpA.mapD one ra)
end
end Np
set_option Elab.async false
set_option linter.all false
set_option maxRecDepth 100000
set_option maxHeartbeats 4000000
namespace Np
open PySem PySem.Spec PyProof.Rows L2
end Np
set_option Elab.async false
set_option linter.all false
set_option maxRecDepth 100000
set_option maxHeartbeats 4000000
namespace Np
open PySem PySem.Spec PyProof.Rows L2
end Np
set_option Elab.async false
set_option linter.all false
set_option maxRecDepth 100000
set_option maxHeartbeats 4000000
namespace Np
open PySem PySem.Spec PyProof.Rows L2
def keysDt : List DD → Option (List Key)
  | [] => some []
  | d :: r => match keyD d, keysDt r with
    | some k, some ks => some (k :: ks)
    | _, _ => none
def valT {α : Type} (kvs : List (List Key × α)) (k : List Key) : Option α := (kvs.find? fun kv => decide (kv.1 = k)).map (·.2)
def putT {α : Type} (kvs : List (List Key × α)) (k : List Key) (v : α) : List (List Key × α) :=
  if (kvs.any fun kv => decide (kv.1 = k)) = true then kvs.map (fun kv => if kv.1 = k then (kv.1, v) else kv) else kvs ++ [(k, v)]
section
variable {K : PySem.W.Frag} {cm : CM} {H : GH}
theorem RpA.keysD : ∀ {vs : List V} {ds : List DD} {ks : List Key}, RpA K cm H vs ds → keysDt ds = some ks → vs = ks.map kV
  | _, _, _, .nil, h => by cases h; rfl
  | _, _, _, .cons r rs, h => by
    unfold keysDt at h
    split at h
    · rename_i k ks h1 h2
      cases h
      rw [List.map_cons, ← r.key h1, RpA.keysD rs h2]
    · cases h
theorem RpT.val : ∀ {xs : List (List Key × V)} {ds : List (List Key × DD)} (k : List Key), RpT K cm H xs ds → (∃ v d, valV xs k = some v ∧ valT ds k = some d ∧ Rp K cm H v d) ∨ (valV xs k = none ∧ valT ds k = none)
  | _, _, k, .nil => .inr ⟨rfl, rfl⟩
  | (k', v) :: xs, (k2, d) :: ds, k, .cons h r => by
    obtain ⟨e0, h⟩ := h
    have e0 : k' = k2 := e0
    subst e0
    by_cases e : k' = k
    · refine .inl ⟨v, d, ?_, ?_, h⟩
      · unfold valV; rw [List.find?_cons_of_pos (by simpa using e)]; rfl
      · unfold valT; rw [List.find?_cons_of_pos (by simpa using e)]; rfl
    · have e1 : valV ((k', v) :: xs) k = valV xs k := by unfold valV; rw [List.find?_cons_of_neg (by simpa using e)]
      have e2 : valT ((k', d) :: ds) k = valT ds k := by unfold valT; rw [List.find?_cons_of_neg (by simpa using e)]
      rw [e1, e2]
      exact RpT.val k r
theorem RpT.any (k : List Key) : ∀ {xs : List (List Key × V)} {ds : List (List Key × DD)}, RpT K cm H xs ds → (xs.any fun kv => decide (kv.1 = k)) = (ds.any fun kv => decide (kv.1 = k))
  | _, _, .nil => rfl
  | _, _, .cons h r => by rw [List.any_cons, List.any_cons, RpT.any k r, h.1]
theorem RpT.app : ∀ {xs xs' : List (List Key × V)} {ds ds' : List (List Key × DD)}, RpT K cm H xs ds → RpT K cm H xs' ds' → RpT K cm H (xs ++ xs') (ds ++ ds')
  | _, _, _, _, .nil, s => s
  | _, _, _, _, .cons h r, s => .cons h (RpT.app r s)
theorem RpT.over {k : List Key} {v : V} {d : DD} (h : Rp K cm H v d) : ∀ {xs : List (List Key × V)} {ds : List (List Key × DD)}, RpT K cm H xs ds → RpT K cm H (xs.map fun kv => if kv.1 = k then (kv.1, v) else kv) (ds.map fun kv => if kv.1 = k then (kv.1, d) else kv)
  | _, _, .nil => .nil
  | (k', _) :: _, (k2, _) :: _, .cons h' r => by
    obtain ⟨e0, h'⟩ := h'
    have e0 : k' = k2 := e0
    subst e0
    rw [List.map_cons, List.map_cons]
    by_cases e : k' = k
    · rw [if_pos e, if_pos e]; exact .cons ⟨rfl, h⟩ (RpT.over h r)
    · rw [if_neg e, if_neg e]; exact .cons ⟨rfl, h'⟩ (RpT.over h r)
theorem RpT.put {xs : List (List Key × V)} {ds : List (List Key × DD)} {k : List Key} {v : V} {d : DD} (r : RpT K cm H xs ds) (h : Rp K cm H v d) : RpT K cm H (putK xs k v) (putT ds k d) := by
  unfold putK putT
  rw [RpT.any k r]
  split
  · exact RpT.over h r
  · exact RpT.app r (.cons ⟨rfl, h⟩ .nil)
theorem RpT.len {xs : List (List Key × V)} {ds : List (List Key × DD)} (h : RpT K cm H xs ds) : xs.length = ds.length := Paired.length h
end
/-- what stands there at a key; none: the key is none that this dict takes -/
def getN : Nd → DD → Option (Option DD)
  | .dK kvs, k => (keyD k).map (valD kvs)
  | .dT kvs, .tup ds => (keysDt ds).map (valT kvs)
  | _, _ => none
def putN : Nd → DD → DD → Option Nd
  | .dK kvs, k, d => if kvs.length < sizeLine then (keyD k).map fun k => .dK (putKD kvs k d) else none
  | .dT kvs, .tup ds, d => if kvs.length < sizeLine then (keysDt ds).map fun k => .dT (putT kvs k d) else none
  | _, _, _ => none
section
variable {W : Wp} {G : GH} {H : Hp} {p : Addr}
theorem putN_run {nd nd' : Nd} {k d : DD} {y v : V} (g : SB W G H) (n : NdR W G H p nd) (r : Rp W.K W.cm G y k) (rv : Rp W.K W.cm G v d) (h : putN nd k d = some nd') : ∃ o, DPut H p y v (upd H p o) ∧ NdR W G (upd H p o) p nd' := by
  cases nd with
  | dK kvs =>
    obtain ⟨vs, hv, rr⟩ := n
    have h : (if kvs.length < sizeLine then (keyD k).map fun k => Nd.dK (putKD kvs k d) else none) = some nd' := h
    split at h
    · rename_i hl
      obtain ⟨k', h1, rfl⟩ := Option.map_eq_some_iff.mp h
      exact ⟨_, by rw [r.key h1]; exact DPut.k hv (by rw [rr.len]; exact hl), _, upd_same, rr.put rv⟩
    · cases h
  | dT kvs =>
    obtain ⟨vs, hv, rr⟩ := n
    cases k with
    | tup ds =>
      have h : (if kvs.length < sizeLine then (keysDt ds).map fun k => Nd.dT (putT kvs k d) else none) = some nd' := h
      split at h
      · rename_i hl
        obtain ⟨ks, h1, rfl⟩ := Option.map_eq_some_iff.mp h
        cases r with | tup hb ra =>
        rename_i b ws
        have e := RpA.keysD ra h1
        subst e
        exact ⟨_, DPut.t hv (g _ _ hb) (by rw [RpT.len rr]; exact hl), _, upd_same, RpT.put rr rv⟩
      · cases h
    | _ => cases h
  | lst xs => cases h
  | obj C fs => cases h
  | gone => cases h
  | fz d => cases h
end
section
variable {W : Wp} {Wx : L2.St → XK} {te tk tx td ty : TE} {δe δk δx δd δy : DE}
/-- {}, keys to be flat tuples -/
def dNewT : DE := fun ρ τ => match τ with
  | some t => .ok (.ptr t.st.length) (some { t with st := t.st ++ [.dT []] })
  | none => .no
def dNewK : DE := fun ρ τ => match τ with
  | some t => .ok (.ptr t.st.length) (some { t with st := t.st ++ [.dK []] })
  | none => .no
theorem dn_newK (hW : StW W) : Dn W Wx tDNewK dNewK := fun tp G H σ ρ τ Q E P => by
  unfold dNewK at P
  split at P
  · rename_i t
    cases tp with
    | none => exact (show False from E.t).elim
    | some a =>
      intro p n
      obtain ⟨x1, x2, x3⟩ := EnvV.newM hW E (nd := .dK []) (o := .dK []) n ⟨[], upd_same, .nil⟩
      exact P (.ref p) _ _ x1 x2 (.ptr x3)
  · exact P.elim
/-- x[k] = e -/
def dDPut (x k e : DE) : DS := fun ρ τ => stE (e ρ τ) ρ fun d τ1 => stE (x ρ τ1) ρ fun u τ2 => stE (k ρ τ2) ρ fun n τ3 => match u, τ3 with
  | .ptr q, some t => match t.st[q]? with
    | some nd => match putN nd n d with
      | some nd' => .ok (.nx ρ) (some { t with st := t.st.set q nd' })
      | none => .no
    | none => .no
  | _, _ => .no
theorem putN_nf {nd nd' : Nd} {k d : DD} (h : putN nd k d = some nd') : nd.isFz = false := by
  cases nd <;> first | rfl | cases h
theorem ds_dPut (hW : StW W) (hx : Dn W Wx tx δx) (hk : Dn W Wx tk δk) (he : Dn W Wx te δe) : DnS W Wx (tAsg te (L2.gSub tx tk rSetD)) (dDPut δx δk δe) := fun tp0 G0 H0 tp G H σ ρ τ D E P =>
  he _ _ _ _ _ _ _ E.v (P.bind E fun d τ1 y G1 H1 E1 e1 r1 P1 => hx _ _ _ _ _ _ _ E1.v (P1.bind E1 fun u τ2 w G2 H2 E2 e2 r2 P2 => hk _ _ _ _ _ _ _ E2.v (P2.bind E2 fun n τ3 z G3 H3 E3 e3 r3 P3 => by
    split at P3
    · rename_i q t
      split at P3
      · rename_i nd hq
        split at P3
        · rename_i nd' hj
          obtain ⟨a, p, rfl, rfl, hm, hp, nr⟩ := E3.v.sto (r2.mono e3.g) hq
          obtain ⟨o, h1, h2⟩ := putN_run E3.v.g nr r3 (Rp.mono (e2.g.trans e3.g) r1) hj
          exact ⟨p, _, rfl, h1, P3 (some a) _ _ σ (GS.refl _) (EnvS.putM hW E3 hp hq (putN_nf hj) h2)⟩
        · exact P3.elim
      · exact P3.elim
    · exact P3.elim)))
/-- d[k], d a dict of the store -/
def dSDGet (d y : DE) : DE := fun ρ τ => (d ρ τ).bind fun x τ1 => (y ρ τ1).bind fun k τ2 => match x, τ2 with
  | .ptr q, some t => match t.st[q]? with
    | some nd => match getN nd k with
      | some (some z) => .ok z τ2
      | _ => .no
    | none => .no
  | _, _ => .no
/-- y in d -/
def dSDIn (neg : Bool) (y d : DE) : DE := fun ρ τ => (y ρ τ).bind fun k τ1 => (d ρ τ1).bind fun x τ2 => match x, τ2 with
  | .ptr q, some t => match t.st[q]? with
    | some nd => match getN nd k with
      | some o => .ok (.bl (if neg then !o.isSome else o.isSome)) τ2
      | _ => .no
    | none => .no
  | _, _ => .no
/-- d.get(k, x) -/
def isDct (t : Tau) (q : Nat) : Bool := match t.st[q]? with
  | some (.dK _) => true
  | some (.dT _) => true
  | _ => false
def dSDGet2 (d y x : DE) : DE := fun ρ τ => (d ρ τ).bind fun c τ1 => match c, τ1 with
  | .ptr q, some t1 => if isDct t1 q = true then (y ρ τ1).bind fun k τ2 => (x ρ τ2).bind fun z τ3 => match τ3 with
      | some t => match t.st[q]? with
        | some nd => match getN nd k with
          | some o => .ok (o.getD z) τ3
          | none => .no
        | none => .no
      | none => .no
    else .no
  | _, _ => .no
end
end Np
set_option Elab.async false
set_option linter.all false
set_option maxRecDepth 100000
set_option maxHeartbeats 4000000
namespace Np
open PySem PySem.Spec PyProof.Rows L2
end Np
set_option Elab.async false
set_option linter.all false
set_option maxRecDepth 100000
set_option maxHeartbeats 4000000
namespace Np
open PySem PySem.Spec PyProof.Rows L2
def intKs : List (Key × DD) → Option (List Int)
  | [] => some []
  | (.inl i, _) :: r => (intKs r).map fun ks => i :: ks
  | _ => none
def strKs : List (Key × DD) → Option (List Str)
  | [] => some []
  | (.inr i, _) :: r => (strKs r).map fun ks => i :: ks
  | _ => none
section
variable {W : Wp} {Wx : L2.St → XK} {te tk tx td ty : TE} {δe δk δx δd δy : DE}
def dSetd (d y x : DE) : DE := fun ρ τ => (d ρ τ).bind fun c τ1 => match c, τ1 with
  | .ptr q, some t1 => if isDct t1 q = true then (y ρ τ1).bind fun k τ2 => (x ρ τ2).bind fun z τ3 => match τ3 with
      | some t => match t.st[q]? with
        | some (.dK kvs) => match keyD k with
          | some k => if kvs.length < sizeLine then match valD kvs k with
              | some w => .ok w τ3
              | none => .ok z (some (putSt t q (.dK (putKD kvs k z))))
            else .no
          | none => .no
        | _ => .no
      | none => .no
    else .no
  | _, _ => .no
def gSortDK (kvs : List (Key × DD)) : Option DD := match intKs kvs with
  | some ks => if ks.length < 64 then some (.lst ((sortI ks).map DD.int)) else none
  | none => match strKs kvs with
    | some ks => if ks.length < 64 then some (.lst ((srtS ks).map DD.str)) else none
    | none => none
def dSortDK (a : DA) : DE := fun ρ τ => (a ρ τ).bind fun xs τ1 => match xs, τ1 with
  | [.ptr q], some t => match t.st[q]? with
    | some (.dK kvs) => R.of τ1 (gSortDK kvs)
    | _ => .no
  | _, _ => .no
variable {ta : TA} {δa : DA}
end
def gMaxD (ds : List DD) : Option DD := match ints? ds with
  | some [] => some .non
  | some (n :: ns) => some (.int (maxL n ns))
  | none => none
def dMaxD (a : DA) : DE := fun ρ τ => (a ρ τ).bind fun xs τ1 => match xs with
  | [.lst ds] => R.of τ1 (gMaxD ds)
  | _ => .no
/-- x.m(.., k=e), x an object of the store -/
def smK (k n m : Nat) (cls nm : Str) (F : Fn) (g : List PV → List PV → List PV) (x : DD) (τ1 : TS') (go : (List PV → List PV → TS' → R DD) → R DD) : R DD := match x, τ1 with
  | .ptr q, some t => match objAt t.st q with
    | some (C, fs) => if C = cls ∧ fs.lookup nm = none then go fun as bs τ => if as.length = n ∧ bs.length = m ∧ (g (.fr (.ptr q) :: as) bs).length = k then F (g (.fr (.ptr q) :: as) bs) τ else .no
      else .no
    | none => .no
  | _, _ => .no
def dSMeKN (k n m : Nat) (cls nm : Str) (F : Fn) (g : List PV → List PV → List PV) (a : DE) (r s : DPs) : DE := fun ρ τ => (a ρ τ).bind fun x τ1 => smK k n m cls nm F g x τ1 fun c => (r ρ τ1).bind fun as τ2 => (s ρ τ2).bind fun bs τ3 => (c as bs τ3).nox
end Np
set_option Elab.async false
set_option linter.all false
set_option maxRecDepth 100000
set_option maxHeartbeats 4000000
namespace Np
open PySem PySem.Spec PyProof.Rows L2
def sdlook (t : Tau) (q : Nat) (k : DD) : Option (Option DD) := t.st[q]?.bind fun nd => getN nd k
def sdput (t : Tau) (q : Nat) (k d : DD) : Option Tau := t.st[q]?.bind fun nd => (putN nd k d).map fun nd' => putSt t q nd'
def sdsort (t : Tau) (q : Nat) : Option DD := match t.st[q]? with
  | some (.dK kvs) => gSortDK kvs
  | _ => none
def sdset (t : Tau) (q : Nat) (k z : DD) : R DD := match t.st[q]? with
  | some (.dK kvs) => match keyD k with
    | some k => if kvs.length < sizeLine then match valD kvs k with
        | some w => .ok w (some t)
        | none => .ok z (some (putSt t q (.dK (putKD kvs k z))))
      else .no
    | none => .no
  | _ => .no
def ofNx (ρ : PEnv) : Option Tau → R Ct
  | some t => .ok (.nx ρ) (some t)
  | none => .no
@[simp] theorem ofNx_some {ρ : PEnv} {t : Tau} : ofNx ρ (some t) = .ok (.nx ρ) (some t) := id rfl
section
variable {ρ : PEnv} {τ τ' : TS'} {a b c e o : DE} {r s : DPs} {k n m : Nat} {F : Fn} {g : List PV → List PV → List PV} {as bs : List PV} {cls mm f C : PySem.Str} {fs : List (PySem.Str × DD)} {d x y z : DD} {t : Tau} {nd nd' : Nd}
@[simp] theorem ev_NewK : dNewK ρ (some t) = .ok (.ptr t.st.length) (some (pushSt t (.dK []))) := id rfl
@[simp] theorem ev_NewT : dNewT ρ (some t) = .ok (.ptr t.st.length) (some (pushSt t (.dT []))) := id rfl
def eSDGet2 (r : R DD) (x : DD) : R DD := r.bind fun k τ2 => match x, τ2 with
  | .ptr q, some t => R.of τ2 ((sdlook t q k).bind id)
  | _, _ => .no
def eSDGet1 (r : R DD) (y : DE) (ρ : PEnv) : R DD := r.bind fun x τ1 => eSDGet2 (y ρ τ1) x
@[simp] theorem ev_SDGet : dSDGet a b ρ τ = eSDGet1 (a ρ τ) b ρ := by
  unfold dSDGet eSDGet1 eSDGet2
  congr 1
  funext x τ1
  congr 1
  funext k τ2
  cases x <;> cases τ2 <;> try rfl
  rename_i q t
  unfold sdlook
  dsimp only
  cases t.st[q]? with
  | none => rfl
  | some nd =>
    dsimp only [Option.bind_some]
    cases getN nd k with
    | none => rfl
    | some o => cases o <;> rfl
@[simp] theorem eSDGet1_ok : eSDGet1 (.ok x τ) b ρ = eSDGet2 (b ρ τ) x := id rfl
@[simp] theorem eSDGet2_ok {q : Nat} : eSDGet2 (.ok z (some t)) (.ptr q) = R.of (some t) ((sdlook t q z).bind id) := id rfl
def eSDIn2 (r : R DD) (neg : Bool) (k : DD) : R DD := r.bind fun x τ2 => match x, τ2 with
  | .ptr q, some t => R.of τ2 ((sdlook t q k).map fun o => .bl (if neg then !o.isSome else o.isSome))
  | _, _ => .no
def eSDIn1 (r : R DD) (neg : Bool) (c : DE) (ρ : PEnv) : R DD := r.bind fun k τ1 => eSDIn2 (c ρ τ1) neg k
@[simp] theorem ev_SDIn {neg : Bool} : dSDIn neg a b ρ τ = eSDIn1 (a ρ τ) neg b ρ := by
  unfold dSDIn eSDIn1 eSDIn2
  congr 1
  funext k τ1
  congr 1
  funext x τ2
  cases x <;> cases τ2 <;> try rfl
  rename_i q t
  unfold sdlook
  dsimp only
  cases t.st[q]? with
  | none => rfl
  | some nd =>
    dsimp only [Option.bind_some]
    cases getN nd k <;> rfl
@[simp] theorem eSDIn1_ok {neg : Bool} : eSDIn1 (.ok x τ) neg b ρ = eSDIn2 (b ρ τ) neg x := id rfl
@[simp] theorem eSDIn2_ok {neg : Bool} {q : Nat} : eSDIn2 (.ok (.ptr q) (some t)) neg z = R.of (some t) ((sdlook t q z).map fun o => .bl (if neg then !o.isSome else o.isSome)) := id rfl
def eSDG3 (r : R DD) (q : Nat) (k : DD) : R DD := r.bind fun z τ3 => match τ3 with
  | some t => R.of τ3 ((sdlook t q k).map fun o => o.getD z)
  | none => .no
def eSDG2 (r : R DD) (q : Nat) (x : DE) (ρ : PEnv) : R DD := r.bind fun k τ2 => eSDG3 (x ρ τ2) q k
def eSDG1 (r : R DD) (y x : DE) (ρ : PEnv) : R DD := r.bind fun c τ1 => match c, τ1 with
  | .ptr q, some t1 => if isDct t1 q = true then eSDG2 (y ρ τ1) q x ρ else .no
  | _, _ => .no
@[simp] theorem ev_SDGet2 : dSDGet2 a b c ρ τ = eSDG1 (a ρ τ) b c ρ := by
  unfold dSDGet2 eSDG1 eSDG2 eSDG3
  congr 1
  funext x τ1
  cases x <;> cases τ1 <;> try rfl
  rename_i q t1
  dsimp only
  congr 1
  congr 1
  funext k τ2
  congr 1
  funext z τ3
  cases τ3 with
  | none => rfl
  | some t =>
    unfold sdlook
    dsimp only
    cases t.st[q]? with
    | none => rfl
    | some nd =>
      dsimp only [Option.bind_some]
      cases getN nd k <;> rfl
@[simp] theorem eSDG1_ok {q : Nat} : eSDG1 (.ok (.ptr q) (some t)) b c ρ = if isDct t q = true then eSDG2 (b ρ (some t)) q c ρ else .no := id rfl
@[simp] theorem eSDG2_ok {q : Nat} : eSDG2 (.ok z τ) q c ρ = eSDG3 (c ρ τ) q z := id rfl
@[simp] theorem eSDG3_ok {q : Nat} : eSDG3 (.ok y (some t)) q z = R.of (some t) ((sdlook t q z).map fun o => o.getD y) := id rfl
def eSetd3 (r : R DD) (q : Nat) (k : DD) : R DD := r.bind fun z τ3 => match τ3 with
  | some t => sdset t q k z
  | none => .no
def eSetd2 (r : R DD) (q : Nat) (x : DE) (ρ : PEnv) : R DD := r.bind fun k τ2 => eSetd3 (x ρ τ2) q k
def eSetd1 (r : R DD) (y x : DE) (ρ : PEnv) : R DD := r.bind fun c τ1 => match c, τ1 with
  | .ptr q, some t1 => if isDct t1 q = true then eSetd2 (y ρ τ1) q x ρ else .no
  | _, _ => .no
@[simp] theorem ev_Setd : dSetd a b c ρ τ = eSetd1 (a ρ τ) b c ρ := by
  unfold dSetd eSetd1 eSetd2 eSetd3
  congr 1
  funext x τ1
  cases x <;> cases τ1 <;> try rfl
  rename_i q t1
  dsimp only
  congr 1
  congr 1
  funext k τ2
  congr 1
  funext z τ3
  cases τ3 with
  | none => rfl
  | some t => rfl
@[simp] theorem eSetd1_ok {q : Nat} : eSetd1 (.ok (.ptr q) (some t)) b c ρ = if isDct t q = true then eSetd2 (b ρ (some t)) q c ρ else .no := id rfl
@[simp] theorem eSetd2_ok {q : Nat} : eSetd2 (.ok z τ) q c ρ = eSetd3 (c ρ τ) q z := id rfl
@[simp] theorem eSetd3_ok {q : Nat} : eSetd3 (.ok y (some t)) q z = sdset t q z y := id rfl
def eDPut3 (r : R DD) (u d : DD) (ρ : PEnv) : R Ct := stE r ρ fun n τ3 => match u, τ3 with
  | .ptr q, some t => ofNx ρ (sdput t q n d)
  | _, _ => .no
def eDPut2 (r : R DD) (k : DE) (d : DD) (ρ : PEnv) : R Ct := stE r ρ fun u τ2 => eDPut3 (k ρ τ2) u d ρ
def eDPut1 (r : R DD) (x k : DE) (ρ : PEnv) : R Ct := stE r ρ fun d τ1 => eDPut2 (x ρ τ1) k d ρ
@[simp] theorem ev_DPut : dDPut a b c ρ τ = eDPut1 (c ρ τ) a b ρ := by
  unfold dDPut eDPut1 eDPut2 eDPut3
  congr 1
  funext d τ1
  congr 1
  funext u τ2
  congr 1
  funext n τ3
  cases u <;> cases τ3 <;> try rfl
  rename_i q t
  unfold sdput
  dsimp only
  cases t.st[q]? with
  | none => rfl
  | some nd =>
    dsimp only [Option.bind_some]
    cases putN nd n d <;> rfl
@[simp] theorem eDPut1_ok : eDPut1 (.ok d τ) a b ρ = eDPut2 (a ρ τ) b d ρ := id rfl
@[simp] theorem eDPut2_ok : eDPut2 (.ok x τ) b d ρ = eDPut3 (b ρ τ) x d ρ := id rfl
@[simp] theorem eDPut3_ok {q : Nat} : eDPut3 (.ok z (some t)) (.ptr q) d ρ = ofNx ρ (sdput t q z d) := id rfl
def eSortDK (r : R (List DD)) : R DD := r.bind fun xs τ1 => match xs, τ1 with
  | [.ptr q], some t => match t.st[q]? with
    | some (.dK kvs) => R.of τ1 (gSortDK kvs)
    | _ => .no
  | _, _ => .no
@[simp] theorem ev_SortDK {a : DA} : dSortDK a ρ τ = eSortDK (a ρ τ) := id rfl
@[simp] theorem eSortDK_ok {q : Nat} : eSortDK (.ok [.ptr q] (some t)) = R.of (some t) (sdsort t q) := by
  show (match t.st[q]? with
    | some (.dK kvs) => R.of (some t) (gSortDK kvs)
    | _ => .no) = _
  unfold sdsort
  cases t.st[q]? with
  | none => rfl
  | some nd => cases nd <;> rfl
def eMaxD (r : R (List DD)) : R DD := r.bind fun xs τ1 => match xs with
  | [.lst ds] => R.of τ1 (gMaxD ds)
  | _ => .no
@[simp] theorem ev_MaxD {a : DA} : dMaxD a ρ τ = eMaxD (a ρ τ) := id rfl
@[simp] theorem eMaxD_ok {ds : List DD} : eMaxD (.ok [.lst ds] τ) = R.of τ (gMaxD ds) := id rfl
def eSMK3 (r : R (List PV)) (k n m : Nat) (F : Fn) (g : List PV → List PV → List PV) (q : Nat) (as : List PV) : R DD := r.bind fun bs τ3 => (if as.length = n ∧ bs.length = m ∧ (g (.fr (.ptr q) :: as) bs).length = k then F (g (.fr (.ptr q) :: as) bs) τ3 else .no).nox
def eSMK2 (r : R (List PV)) (k n m : Nat) (F : Fn) (g : List PV → List PV → List PV) (q : Nat) (s : DPs) (ρ : PEnv) : R DD := r.bind fun as τ2 => eSMK3 (s ρ τ2) k n m F g q as
def eSMK1 (x : R DD) (k n m : Nat) (cls mm : PySem.Str) (F : Fn) (g : List PV → List PV → List PV) (r s : DPs) (ρ : PEnv) : R DD := x.bind fun x τ1 => match x, τ1 with
  | .ptr q, some t => match objAt t.st q with
    | some (C, fs) => if C = cls ∧ fs.lookup mm = none then eSMK2 (r ρ τ1) k n m F g q s ρ else .no
    | none => .no
  | _, _ => .no
@[simp] theorem ev_SMeKN : dSMeKN k n m cls mm F g a r s ρ τ = eSMK1 (a ρ τ) k n m cls mm F g r s ρ := by
  unfold dSMeKN eSMK1
  congr 1
@[simp] theorem eSMK1_at {q : Nat} (h : objAt t.st q = some (cls, fs)) : eSMK1 (.ok (.ptr q) (some t)) k n m cls mm F g r s ρ = if fs.lookup mm = none then eSMK2 (r ρ (some t)) k n m F g q s ρ else .no := by
  show (match objAt t.st q with | some (C, fs) => _ | none => _) = _
  rw [h]
  simp only [true_and]
@[simp] theorem eSMK2_ok {q : Nat} : eSMK2 (.ok as τ) k n m F g q s ρ = eSMK3 (s ρ τ) k n m F g q as := id rfl
@[simp] theorem eSMK3_ok {q : Nat} : eSMK3 (.ok bs τ) k n m F g q as = (if as.length = n ∧ bs.length = m ∧ (g (.fr (.ptr q) :: as) bs).length = k then F (g (.fr (.ptr q) :: as) bs) τ else .no).nox := id rfl
theorem Tn.put {N : Nat} (h : Tn N t) : Tn N (putSt t k nd) := ⟨h.a0, h.a1, h.l0⟩
end
section
variable {κ α β : Type} [DecidableEq κ] [DecidableEq β]
def al (xs : List (κ × α)) (k : κ) : Option α := (xs.find? fun p => decide (p.1 = k)).map (·.2)
def aput (xs : List (κ × α)) (k : κ) (v : α) : List (κ × α) := if (xs.any fun p => decide (p.1 = k)) = true then xs.map (fun p => if p.1 = k then (p.1, v) else p) else xs ++ [(k, v)]
def ad (kf : κ → β) (vf : α → DD) (xs : List (κ × α)) : List (β × DD) := xs.map fun p => (kf p.1, vf p.2)
theorem ad_len {kf : κ → β} {vf : α → DD} (xs : List (κ × α)) : (ad kf vf xs).length = xs.length := List.length_map _
variable {kf : κ → β} {vf : α → DD}
theorem al_cons {p : κ × α} {xs : List (κ × α)} {k : κ} : al (p :: xs) k = if p.1 = k then some p.2 else al xs k := by
  unfold al
  by_cases e : p.1 = k
  · rw [List.find?_cons_of_pos (by simpa using e), if_pos e]; rfl
  · rw [List.find?_cons_of_neg (by simpa using e), if_neg e]
theorem any_ad (hi : ∀ a b, kf a = kf b → a = b) (k : κ) (xs : List (κ × α)) : ((ad kf vf xs).any fun kv => decide (kv.1 = kf k)) = xs.any fun p => decide (p.1 = k) := by
  unfold ad
  rw [List.any_map]
  congr 1
  funext p
  show decide (kf p.1 = kf k) = decide (p.1 = k)
  by_cases e : p.1 = k
  · rw [decide_eq_true e, decide_eq_true (congrArg kf e)]
  · rw [decide_eq_false e, decide_eq_false fun z => e (hi _ _ z)]
theorem put_ad (hi : ∀ a b, kf a = kf b → a = b) (k : κ) (v : α) (xs : List (κ × α)) :
    (if ((ad kf vf xs).any fun kv => decide (kv.1 = kf k)) = true then (ad kf vf xs).map (fun kv => if kv.1 = kf k then (kv.1, vf v) else kv) else ad kf vf xs ++ [(kf k, vf v)]) = ad kf vf (aput xs k v) := by
  rw [any_ad hi]
  unfold aput
  split
  · unfold ad
    rw [List.map_map, List.map_map]
    refine List.map_congr_left fun p _ => ?_
    dsimp only [Function.comp]
    by_cases e : p.1 = k
    · rw [if_pos (congrArg kf e), if_pos e]
    · rw [if_neg fun z => e (hi _ _ z), if_neg e]
  · unfold ad
    rw [List.map_append]
    rfl
theorem aput_len (xs : List (κ × α)) (k : κ) (v : α) : (aput xs k v).length ≤ xs.length + 1 := by
  unfold aput
  split
  · rw [List.length_map]; omega
  · rw [List.length_append]; exact Nat.le_refl _
theorem al_none {k : κ} : ∀ {xs : List (κ × α)}, al xs k = none ↔ k ∉ xs.map (·.1)
  | [] => by simp [al]
  | p :: xs => by
    rw [al_cons, List.map_cons, List.mem_cons, not_or]
    have ih := al_none (k := k) (xs := xs)
    by_cases e : p.1 = k
    · rw [if_pos e]
      exact ⟨fun z => (nomatch z), fun z => (z.1 e.symm).elim⟩
    · rw [if_neg e]
      exact ⟨fun z => ⟨fun y => e y.symm, ih.mp z⟩, fun z => ih.mpr z.2⟩
theorem al_of_mem {k : κ} {v : α} : ∀ {xs : List (κ × α)}, (xs.map (·.1)).Nodup → (k, v) ∈ xs → al xs k = some v
  | p :: xs, nd, h => by
    rw [List.map_cons, List.nodup_cons] at nd
    rw [al_cons]
    rcases List.mem_cons.mp h with h | h
    · subst h
      rw [if_pos rfl]
    · rw [if_neg fun e => nd.1 (by rw [e]; exact List.mem_map.mpr ⟨_, h, rfl⟩)]
      exact al_of_mem nd.2 h
theorem aput_keys (xs : List (κ × α)) (k : κ) (v : α) : (aput xs k v).map (·.1) = if k ∈ xs.map (·.1) then xs.map (·.1) else xs.map (·.1) ++ [k] := by
  have hm : (xs.any fun p => decide (p.1 = k)) = true ↔ k ∈ xs.map (·.1) := by
    rw [List.any_eq_true, List.mem_map]
    exact ⟨fun ⟨p, h, e⟩ => ⟨p, h, of_decide_eq_true e⟩, fun ⟨p, h, e⟩ => ⟨p, h, decide_eq_true e⟩⟩
  unfold aput
  by_cases h : k ∈ xs.map (·.1)
  · rw [if_pos (hm.mpr h), if_pos h, List.map_map]
    refine List.map_congr_left fun p _ => ?_
    dsimp only [Function.comp]
    split <;> rfl
  · rw [if_neg fun z => h (hm.mp z), if_neg h, List.map_append]
    rfl
theorem aput_nodup {xs : List (κ × α)} {k : κ} {v : α} (h : (xs.map (·.1)).Nodup) : ((aput xs k v).map (·.1)).Nodup := by
  rw [aput_keys]
  split
  · exact h
  · rename_i n
    rw [List.nodup_append]
    exact ⟨h, by simp, fun a ha b hb z => n (by rw [← List.mem_singleton.mp hb, ← z]; exact ha)⟩
end
theorem inr_inj : ∀ a b : PySem.Str, (Sum.inr a : Key) = Sum.inr b → a = b := fun _ _ h => Sum.inr.inj h
abbrev sD {α : Type} (vf : α → DD) (xs : List (PySem.Str × α)) : List (Key × DD) := ad Sum.inr vf xs
section
variable {α : Type} {vf : α → DD}
theorem putKD_s (xs : List (PySem.Str × α)) (k : PySem.Str) (v : α) : putKD (sD vf xs) (.inr k) (vf v) = sD vf (aput xs k v) := put_ad inr_inj k v xs
variable {t : Tau} {q : Nat}
theorem put_s {xs : List (PySem.Str × α)} {k : PySem.Str} {v : α} {d : DD} (h : t.st[q]? = some (.dK (sD vf xs))) (hd : d = vf v) (hl : xs.length < sizeLine) : sdput t q (.str k) d = some (putSt t q (.dK (sD vf (aput xs k v)))) := by
  subst hd
  unfold sdput
  rw [h]
  show (if (sD vf xs).length < sizeLine then some (Nd.dK (putKD (sD vf xs) (.inr k) (vf v))) else none).map _ = _
  rw [if_pos (by rw [ad_len]; exact hl), ← putKD_s]
  rfl
end
structure Hl (st : List Nd) (h : List (Nat × Nd)) : Prop where
  n : (h.map (·.1)).Nodup
  g : ∀ p ∈ h, st[p.1]? = some p.2
section
variable {st : List Nd} {X Y h : List (Nat × Nd)} {k : Nat} {nd nd' : Nd}
theorem Hl.lt (H : Hl st h) {p : Nat × Nd} (hp : p ∈ h) : p.1 < st.length := (List.getElem?_eq_some_iff.mp (H.g p hp)).1
theorem Hl.set (H : Hl st (X ++ (k, nd) :: Y)) : Hl (st.set k nd') (X ++ (k, nd') :: Y) := by
  have hk := H.lt (p := (k, nd)) (by simp)
  have n := H.n
  refine ⟨by simpa using n, fun p hp => ?_⟩
  have other : ∀ p, p ∈ X ∨ p ∈ Y → (st.set k nd')[p.1]? = some p.2 := fun p hp => by
    have ne : k ≠ p.1 := by
      rw [List.map_append, List.map_cons, List.nodup_append] at n
      rcases hp with hp | hp
      · exact fun e => n.2.2 p.1 (List.mem_map.mpr ⟨p, hp, rfl⟩) k List.mem_cons_self e.symm
      · exact fun e => (List.nodup_cons.mp n.2.1).1 (by show k ∈ _; rw [e]; exact List.mem_map.mpr ⟨p, hp, rfl⟩)
    rw [List.getElem?_set_ne ne]
    exact H.g p (by rw [List.mem_append, List.mem_cons]; exact hp.elim .inl fun z => .inr (.inr z))
  rcases List.mem_append.mp hp with hp | hp
  · exact other p (.inl hp)
  · rcases List.mem_cons.mp hp with rfl | hp
    · exact List.getElem?_set_self hk
    · exact other p (.inr hp)
theorem Hl.grow (H : Hl st h) (l : List Nd) : Hl (st ++ l) h := ⟨H.n, fun p hp => by rw [List.getElem?_append_left (H.lt hp)]; exact H.g p hp⟩
theorem Hl.new (H : Hl st (X ++ Y)) : Hl (st ++ [nd]) (X ++ (st.length, nd) :: Y) := by
  have lt : ∀ p, p ∈ X ∨ p ∈ Y → p.1 < st.length := fun p hp => H.lt (List.mem_append.mpr hp)
  have n := H.n
  rw [List.map_append, List.nodup_append] at n
  refine ⟨?_, fun p hp => ?_⟩
  · rw [List.map_append, List.map_cons, List.nodup_append, List.nodup_cons]
    refine ⟨n.1, ⟨fun z => ?_, n.2.1⟩, fun a ha b hb e => ?_⟩
    · obtain ⟨p, hp, e⟩ := List.mem_map.mp z
      have := lt p (.inr hp)
      dsimp only at e
      omega
    · rcases List.mem_cons.mp hb with hb | hb
      · obtain ⟨p, hp, e2⟩ := List.mem_map.mp ha
        have := lt p (.inl hp)
        dsimp only at hb e2
        omega
      · exact n.2.2 a ha b hb e
  · rcases List.mem_append.mp hp with hp | hp
    · exact (H.grow [nd]).g p (List.mem_append_left _ hp)
    · rcases List.mem_cons.mp hp with rfl | hp
      · simp
      · exact (H.grow [nd]).g p (List.mem_append_right _ hp)
theorem Hl.nil : Hl st [] := ⟨List.nodup_nil, fun _ h => (nomatch h)⟩
end
end Np
set_option Elab.async false
set_option linter.all false
set_option maxRecDepth 100000
set_option maxHeartbeats 4000000
namespace NpH
open PySem PySem.Spec PyProof.Rows HotX
end NpH
namespace Np
open PySem PySem.Spec PyProof.Rows L2 HotX NpH
end Np
set_option Elab.async false
set_option linter.all false
set_option maxRecDepth 100000
set_option maxHeartbeats 4000000
namespace Np
open PySem PySem.Spec PyProof.Rows L2 HotX NpH
theorem RoomQ.make {k : Nat} {A : Around} (r : RoomQ (k + 1) A) (C : Addr) (us : List Value) (kw : List (Str × Value)) : RoomQ k (A.under (.builtin "type.__call__" ⟨.ref C :: us, kw⟩)) :=
  ⟨by have := r.dp; rw [make_depth]; omega, by have := r.un; rw [make_units]; omega⟩
end Np
set_option Elab.async false
set_option linter.all false
set_option maxRecDepth 100000
set_option maxHeartbeats 4000000
namespace Np
open PySem PySem.Spec PyProof.Rows L2 HotX NpH
section
variable {W : Wp} {Wx : L2.St → XK}
def dTryKR (cls : Str) (names : List Str) (i j : Nat) (d y : DE) (δa : DA) : DS := fun ρ τ => stE ((d ρ τ).nox) ρ fun x τ1 => stE ((y ρ τ1).nox) ρ fun k τ2 => match x, τ2 with
  | .ptr q, some t => match t.st[q]? with
    | some nd => match getN nd k with
      | some (some z) => .ok (.nx (ρ.set j (some (.fr z)))) τ2
      | some none => if i < ρ.length then dRaise cls names δa (ρ.set i none) τ2 else .no
      | none => .no
    | none => .no
  | _, _ => .no
end
section
variable {ρ : PEnv} {τ : TS'} {d y : DE} {δa : DA} {x k z : DD} {cls : Str} {names : List Str} {i j : Nat} {t : Tau} {q : Nat} {nd : Nd}
def eTKR (r : R DD) (cls : Str) (names : List Str) (i j : Nat) (y : DE) (δa : DA) (ρ : PEnv) : R Ct := match r with
  | .ok x τ1 => stE ((y ρ τ1).nox) ρ fun k τ2 => match x, τ2 with
    | .ptr q, some t => match t.st[q]? with
      | some nd => match getN nd k with
        | some (some z) => .ok (.nx (ρ.set j (some (.fr z)))) τ2
        | some none => if i < ρ.length then dRaise cls names δa (ρ.set i none) τ2 else .no
        | none => .no
      | none => .no
    | _, _ => .no
  | _ => .no
def eTKR2 (o : Option (Option DD)) (cls : Str) (names : List Str) (i j : Nat) (δa : DA) (ρ : PEnv) (τ2 : TS') : R Ct := match o with
  | some (some z) => .ok (.nx (ρ.set j (some (.fr z)))) τ2
  | some none => if i < ρ.length then dRaise cls names δa (ρ.set i none) τ2 else .no
  | none => .no
def eTKR1 (r : R DD) (q : Nat) (cls : Str) (names : List Str) (i j : Nat) (δa : DA) (ρ : PEnv) : R Ct := match r with
  | .ok k (some t) => eTKR2 (sdlook t q k) cls names i j δa ρ (some t)
  | _ => .no
@[simp] theorem ev_TryKR : dTryKR cls names i j d y δa ρ τ = eTKR (d ρ τ) cls names i j y δa ρ := by
  unfold dTryKR eTKR
  cases d ρ τ <;> rfl
@[simp] theorem eTKR_ok : eTKR (.ok (.ptr q) τ) cls names i j y δa ρ = eTKR1 (y ρ τ) q cls names i j δa ρ := by
  unfold eTKR eTKR1
  dsimp only
  cases h : y ρ τ with
  | ok k τ2 =>
    cases τ2 with
    | none => rfl
    | some t =>
      simp only [R.nox_ok, stE_ok]
      unfold sdlook eTKR2
      cases t.st[q]? <;> rfl
  | ex x τ2 => rfl
  | no => rfl
@[simp] theorem eTKR1_ok : eTKR1 (.ok k (some t)) q cls names i j δa ρ = eTKR2 (sdlook t q k) cls names i j δa ρ (some t) := id rfl
@[simp] theorem eTKR2_some : eTKR2 (some (some z)) cls names i j δa ρ τ = .ok (.nx (ρ.set j (some (.fr z)))) τ := id rfl
@[simp] theorem eTKR2_none : eTKR2 (some none) cls names i j δa ρ τ = if i < ρ.length then dRaise cls names δa (ρ.set i none) τ else .no := id rfl
end
end Np
set_option Elab.async false
set_option linter.all false
set_option maxRecDepth 100000
set_option maxHeartbeats 4000000
namespace Np
open PySem PySem.Spec PyProof.Rows L2
instance (i j : Int) : Decidable (CDivW i j) := by unfold CDivW; infer_instance
def dSMeOP (k : Nat) (cls m : Str) (F : FnO) (a : DE) (r : DPs) : PEnv → TS' → R OC := fun ρ τ => (a ρ τ).bind fun x τ1 => match x, τ1 with
  | .ptr q, some t => match objAt t.st q with
    | some (C, fs) => if C = cls ∧ fs.lookup m = none then (r ρ τ1).bind fun as τ2 => if as.length + 1 = k then F (.fr (.ptr q) :: as) τ2 else .no
      else .no
    | none => .no
  | _, _ => .no
def dSMeON (k : Nat) (cls m : Str) (F : FnO) (a : DE) (r : DPs) : PEnv → TS' → R OC := fun ρ τ => (a ρ τ).bind fun x τ1 => match x, τ1 with
  | .ptr q, some t => match objAt t.st q with
    | some (C, fs) => if C = cls ∧ fs.lookup m = none then (r ρ τ1).bind fun as τ2 => if as.length + 1 = k then (F (.fr (.ptr q) :: as) τ2).nox else .no
      else .no
    | none => .no
  | _, _ => .no
section
variable {ρ : PEnv} {τ : TS'} {t : Tau} {fs : List (Str × DD)} {a : DE} {r : DPs} {as : List PV} {cls mm : Str} {k q : Nat} {F : Fn} {FO : FnO}
def eSMeP2 (r : R (List PV)) (k : Nat) (F : Fn) (q : Nat) : R DD := r.bind fun as τ2 => if as.length + 1 = k then F (.fr (.ptr q) :: as) τ2 else .no
def eSMeP1 (r : R DD) (k : Nat) (cls m : Str) (F : Fn) (ps : DPs) (ρ : PEnv) : R DD := r.bind fun x τ1 => match x, τ1 with
  | .ptr q, some t => match objAt t.st q with
    | some (C, fs) => if C = cls ∧ fs.lookup m = none then eSMeP2 (ps ρ τ1) k F q else .no
    | none => .no
  | _, _ => .no
@[simp] theorem ev_SMeP : dSMeP k cls mm F a r ρ τ = eSMeP1 (a ρ τ) k cls mm F r ρ := by
  unfold dSMeP eSMeP1
  congr 1
@[simp] theorem eSMeP1_at (h : objAt t.st q = some (cls, fs)) : eSMeP1 (.ok (.ptr q) (some t)) k cls mm F r ρ = if fs.lookup mm = none then eSMeP2 (r ρ (some t)) k F q else .no := by
  show (match objAt t.st q with | some (C, fs) => _ | none => _) = _
  rw [h]
  simp only [true_and]
@[simp] theorem eSMeP1_ex {x : Ex} : eSMeP1 (.ex x τ) k cls mm F r ρ = .ex x τ := id rfl
@[simp] theorem eSMeP2_ok : eSMeP2 (.ok as τ) k F q = if as.length + 1 = k then F (.fr (.ptr q) :: as) τ else .no := id rfl
def eSMeO2 (r : R (List PV)) (k : Nat) (F : FnO) (q : Nat) : R OC := r.bind fun as τ2 => if as.length + 1 = k then F (.fr (.ptr q) :: as) τ2 else .no
def eSMeO1 (r : R DD) (k : Nat) (cls m : Str) (F : FnO) (ps : DPs) (ρ : PEnv) : R OC := r.bind fun x τ1 => match x, τ1 with
  | .ptr q, some t => match objAt t.st q with
    | some (C, fs) => if C = cls ∧ fs.lookup m = none then eSMeO2 (ps ρ τ1) k F q else .no
    | none => .no
  | _, _ => .no
@[simp] theorem ev_SMeOP : dSMeOP k cls mm FO a r ρ τ = eSMeO1 (a ρ τ) k cls mm FO r ρ := by
  unfold dSMeOP eSMeO1
  congr 1
@[simp] theorem eSMeO1_at (h : objAt t.st q = some (cls, fs)) : eSMeO1 (.ok (.ptr q) (some t)) k cls mm FO r ρ = if fs.lookup mm = none then eSMeO2 (r ρ (some t)) k FO q else .no := by
  show (match objAt t.st q with | some (C, fs) => _ | none => _) = _
  rw [h]
  simp only [true_and]
@[simp] theorem eSMeO1_ex {x : Ex} : eSMeO1 (.ex x τ) k cls mm FO r ρ = .ex x τ := id rfl
@[simp] theorem eSMeO2_ok : eSMeO2 (.ok as τ) k FO q = if as.length + 1 = k then FO (.fr (.ptr q) :: as) τ else .no := id rfl
def eSMeQ2 (r : R (List PV)) (k : Nat) (F : FnO) (q : Nat) : R OC := r.bind fun as τ2 => if as.length + 1 = k then (F (.fr (.ptr q) :: as) τ2).nox else .no
def eSMeQ1 (r : R DD) (k : Nat) (cls m : Str) (F : FnO) (ps : DPs) (ρ : PEnv) : R OC := r.bind fun x τ1 => match x, τ1 with
  | .ptr q, some t => match objAt t.st q with
    | some (C, fs) => if C = cls ∧ fs.lookup m = none then eSMeQ2 (ps ρ τ1) k F q else .no
    | none => .no
  | _, _ => .no
@[simp] theorem ev_SMeON : dSMeON k cls mm FO a r ρ τ = eSMeQ1 (a ρ τ) k cls mm FO r ρ := by
  unfold dSMeON eSMeQ1
  congr 1
@[simp] theorem eSMeQ1_at (h : objAt t.st q = some (cls, fs)) : eSMeQ1 (.ok (.ptr q) (some t)) k cls mm FO r ρ = if fs.lookup mm = none then eSMeQ2 (r ρ (some t)) k FO q else .no := by
  show (match objAt t.st q with | some (C, fs) => _ | none => _) = _
  rw [h]
  simp only [true_and]
@[simp] theorem eSMeQ2_ok : eSMeQ2 (.ok as τ) k FO q = if as.length + 1 = k then (FO (.fr (.ptr q) :: as) τ).nox else .no := id rfl
end
end Np
set_option Elab.async false
set_option linter.all false
set_option maxRecDepth 100000
set_option maxHeartbeats 4000000
namespace Np
open PySem PySem.Spec PyProof.Rows L2
def idxS (s : Str) : List Str → Option Nat
  | [] => none
  | a :: as => if a = s then some 0 else (idxS s as).map (· + 1)
def gLIx : DD → DD → Option DD
  | .lst ds, .str s => (strs? ds).bind fun xs => (idxS s xs).map fun j => .int ((j : Nat) : Int)
  | _, _ => none
def dLIx (o : DE) (a : DA) : DE := fun ρ τ => (o ρ τ).bind fun x τ1 => match x with
  | .lst ds => (a ρ τ1).bind fun ys τ2 => match ys with
    | [y] => R.of τ2 (gLIx (.lst ds) y)
    | _ => .no
  | _ => .no
section
variable {W : Wp} {Wx : L2.St → XK} {to : TE} {ta : TA} {δo : DE} {δa : DA}
def eLIx (r : R DD) (a : DA) (ρ : PEnv) : R DD := r.bind fun x τ1 => match x with
  | .lst ds => (a ρ τ1).bind fun ys τ2 => match ys with
    | [y] => R.of τ2 (gLIx (.lst ds) y)
    | _ => .no
  | _ => .no
def eLIx2 (r : R (List DD)) (ds : List DD) : R DD := r.bind fun ys τ2 => match ys with
    | [y] => R.of τ2 (gLIx (.lst ds) y)
    | _ => .no
@[simp] theorem ev_LIx {ρ : PEnv} {τ : TS'} : dLIx δo δa ρ τ = eLIx (δo ρ τ) δa ρ := id rfl
@[simp] theorem eLIx_ok {ρ : PEnv} {τ : TS'} {ds : List DD} : eLIx (.ok (.lst ds) τ) δa ρ = eLIx2 (δa ρ τ) ds := id rfl
@[simp] theorem eLIx2_ok {τ : TS'} {ds : List DD} {y : DD} : eLIx2 (.ok [y] τ) ds = R.of τ (gLIx (.lst ds) y) := id rfl
end
end Np
set_option Elab.async false
set_option linter.all false
set_option maxRecDepth 100000
set_option maxHeartbeats 4000000
namespace Np
open PySem PySem.Spec PyProof.Rows L2
def spS (cls : Str) (F : Fn) (h : DD → TS' → R DD) (xs : List DD) (τ1 : TS') : R DD := match xs, τ1 with
  | [.ptr q], some t => match objAt t.st q with
    | some (C, fs) => if C = cls then (F [.fr (.ptr q)] τ1).nox.bind h else .no
    | none => .no
  | _, _ => .no
def hStrS (d : DD) (τ2 : TS') : R DD := match d with
  | .str z => .ok (.str z) τ2
  | _ => .no
def hLenS (d : DD) (τ2 : TS') : R DD := match d with
  | .int n => if 0 ≤ n ∧ n < 2 ^ 63 then .ok (.int n) τ2 else .no
  | _ => .no
def hBoolS (d : DD) (τ2 : TS') : R DD := match d with
  | .int n => if 0 ≤ n ∧ n < 2 ^ 63 then .ok (.bl (n != 0)) τ2 else .no
  | _ => .no
def dSStr (cls : Str) (F : Fn) (a : DA) : DE := fun ρ τ => (a ρ τ).bind (spS cls F hStrS)
def dSLen (cls : Str) (F : Fn) (a : DA) : DE := fun ρ τ => (a ρ τ).bind (spS cls F hLenS)
def dSBool (cls : Str) (F : Fn) (a : DA) : DE := fun ρ τ => (a ρ τ).bind (spS cls F hBoolS)
section
variable {ρ : PEnv} {τ : TS'} {t : Tau} {q : Nat} {cls : Str} {fs : List (Str × DD)} {F : Fn} {a : DA} {h : DD → TS' → R DD}
def eSpS (r : R (List DD)) (cls : Str) (F : Fn) (h : DD → TS' → R DD) : R DD := r.bind (spS cls F h)
@[simp] theorem ev_SStr : dSStr cls F a ρ τ = eSpS (a ρ τ) cls F hStrS := id rfl
@[simp] theorem ev_SLen : dSLen cls F a ρ τ = eSpS (a ρ τ) cls F hLenS := id rfl
@[simp] theorem ev_SBool : dSBool cls F a ρ τ = eSpS (a ρ τ) cls F hBoolS := id rfl
@[simp] theorem eSpS_at (ho : objAt t.st q = some (cls, fs)) : eSpS (.ok [.ptr q] (some t)) cls F h = (F [.fr (.ptr q)] (some t)).nox.bind h := by
  show (match objAt t.st q with | some (C, fs) => _ | none => _) = _
  rw [ho]
  exact if_pos rfl
@[simp] theorem hStrS_ok {z : Str} : hStrS (.str z) τ = .ok (.str z) τ := id rfl
@[simp] theorem hLenS_ok {n : Int} : hLenS (.int n) τ = if 0 ≤ n ∧ n < 2 ^ 63 then .ok (.int n) τ else .no := id rfl
@[simp] theorem hBoolS_ok {n : Int} : hBoolS (.int n) τ = if 0 ≤ n ∧ n < 2 ^ 63 then .ok (.bl (n != 0)) τ else .no := id rfl
end
end Np
set_option Elab.async false
set_option linter.all false
set_option maxRecDepth 100000
set_option maxHeartbeats 4000000
namespace Np
open PySem PySem.Spec PyProof.Rows L2
end Np
set_option Elab.async false
set_option linter.all false
set_option maxRecDepth 100000
set_option maxHeartbeats 4000000
namespace Np
open PySem PySem.Spec PyProof.Rows L2
def smKO (k n m : Nat) (cls nm : Str) (F : FnO) (g : List PV → List PV → List PV) (x : DD) (τ1 : TS') (go : (List PV → List PV → TS' → R OC) → R OC) : R OC := match x, τ1 with
  | .ptr q, some t => match objAt t.st q with
    | some (C, fs) => if C = cls ∧ fs.lookup nm = none then go fun as bs τ => if as.length = n ∧ bs.length = m ∧ (g (.fr (.ptr q) :: as) bs).length = k then F (g (.fr (.ptr q) :: as) bs) τ else .no
      else .no
    | none => .no
  | _, _ => .no
def dSMeKON (k n m : Nat) (cls nm : Str) (F : FnO) (g : List PV → List PV → List PV) (a : DE) (r s : DPs) : PEnv → TS' → R OC := fun ρ τ => (a ρ τ).bind fun x τ1 => smKO k n m cls nm F g x τ1 fun c => (r ρ τ1).bind fun as τ2 => (s ρ τ2).bind fun bs τ3 => (c as bs τ3).nox
section
variable {ρ : PEnv} {τ : TS'} {t : Tau} {fs : List (Str × DD)} {a : DE} {r s : DPs} {as bs : List PV} {cls mm : Str} {k n m q : Nat} {F : FnO} {g : List PV → List PV → List PV}
def eSKO3 (r : R (List PV)) (k n m : Nat) (F : FnO) (g : List PV → List PV → List PV) (q : Nat) (as : List PV) : R OC := r.bind fun bs τ3 => (if as.length = n ∧ bs.length = m ∧ (g (.fr (.ptr q) :: as) bs).length = k then F (g (.fr (.ptr q) :: as) bs) τ3 else .no).nox
def eSKO2 (r : R (List PV)) (k n m : Nat) (F : FnO) (g : List PV → List PV → List PV) (q : Nat) (s : DPs) (ρ : PEnv) : R OC := r.bind fun as τ2 => eSKO3 (s ρ τ2) k n m F g q as
def eSKO1 (x : R DD) (k n m : Nat) (cls mm : Str) (F : FnO) (g : List PV → List PV → List PV) (r s : DPs) (ρ : PEnv) : R OC := x.bind fun x τ1 => match x, τ1 with
  | .ptr q, some t => match objAt t.st q with
    | some (C, fs) => if C = cls ∧ fs.lookup mm = none then eSKO2 (r ρ τ1) k n m F g q s ρ else .no
    | none => .no
  | _, _ => .no
@[simp] theorem ev_SMeKON : dSMeKON k n m cls mm F g a r s ρ τ = eSKO1 (a ρ τ) k n m cls mm F g r s ρ := by
  unfold dSMeKON eSKO1
  congr 1
@[simp] theorem eSKO1_at (h : objAt t.st q = some (cls, fs)) : eSKO1 (.ok (.ptr q) (some t)) k n m cls mm F g r s ρ = if fs.lookup mm = none then eSKO2 (r ρ (some t)) k n m F g q s ρ else .no := by
  show (match objAt t.st q with | some (C, fs) => _ | none => _) = _
  rw [h]
  simp only [true_and]
@[simp] theorem eSKO2_ok : eSKO2 (.ok as τ) k n m F g q s ρ = eSKO3 (s ρ τ) k n m F g q as := id rfl
@[simp] theorem eSKO3_ok : eSKO3 (.ok bs τ) k n m F g q as = (if as.length = n ∧ bs.length = m ∧ (g (.fr (.ptr q) :: as) bs).length = k then F (g (.fr (.ptr q) :: as) bs) τ else .no).nox := id rfl
end
def dNeOw (i : Nat) (e : DE) : DE := fun ρ τ => match ρ[i]? with
  | some (some (.ow (.lst xs))) => (e ρ τ).bind fun b τ1 => R.of τ1 (gNeD (.lst xs) b)
  | _ => .no
section
variable {W : Wp} {Wx : L2.St → XK} {te : TE} {δe : DE}
variable {ρ : PEnv} {τ : TS'} {xs : List DD} {b : DD}
def eNeOw (o : Option (Option PV)) (e : DE) (ρ : PEnv) (τ : TS') : R DD := match o with
  | some (some (.ow (.lst xs))) => (e ρ τ).bind fun b τ1 => R.of τ1 (gNeD (.lst xs) b)
  | _ => .no
def eNeOw2 (r : R DD) (xs : List DD) : R DD := r.bind fun b τ1 => R.of τ1 (gNeD (.lst xs) b)
@[simp] theorem ev_NeOw {i : Nat} : dNeOw i δe ρ τ = eNeOw ρ[i]? δe ρ τ := id rfl
@[simp] theorem eNeOw_ok : eNeOw (some (some (.ow (.lst xs)))) δe ρ τ = eNeOw2 (δe ρ τ) xs := id rfl
@[simp] theorem eNeOw2_ok : eNeOw2 (.ok b τ) xs = R.of τ (gNeD (.lst xs) b) := id rfl
end
end Np
set_option Elab.async false
set_option linter.all false
set_option maxRecDepth 100000
set_option maxHeartbeats 4000000
namespace Np
open PySem PySem.Spec PyProof.Rows L2
end Np
set_option Elab.async false
set_option linter.all false
set_option maxRecDepth 100000
set_option maxHeartbeats 4000000
namespace Np
open PySem PySem.Spec PyProof.Rows L2
def kPy : Key → PyData
  | .inl i => .int i
  | .inr s => .str s
def kDD : Key → DD
  | .inl i => .int i
  | .inr s => .str s
def encT (k : List Key) : PyData := .tuple (k.map kPy)
def srtT (ks : List (List Key)) : List (List Key) := ks.mergeSort (PySem.W.dataLe false encT)
def okP : List Key → Bool
  | [.inr _, .inl _] => true
  | _ => false
theorem okP_of {k : List Key} (h : okP k = true) : ∃ s i, k = [.inr s, .inl i] := by
  unfold okP at h
  split at h
  · exact ⟨_, _, rfl⟩
  · cases h
theorem reads_keys {h : Heap} : ∀ {k : List Key} {its : List Value}, Vals (k.map kV) its → ReadsAll h its (k.map kPy) []
  | [], _, .nil => .nil
  | .inl i :: k, _, .cons r rs => by
    obtain ⟨t, rfl⟩ := (show ∃ t, _ = Value.int i t from r)
    exact ReadsAll.cons (as := []) (bs := []) (.int i t) (reads_keys rs)
  | .inr i :: k, _, .cons r rs => by
    obtain ⟨t, rfl⟩ := (show ∃ t, _ = Value.str i t from r)
    exact ReadsAll.cons (as := []) (bs := []) (.str i t) (reads_keys rs)
def isKey (H : Hp) (v : Value) (k : List Key) : Prop := ∃ t, v = .ref t ∧ H t = some (.tup (k.map kV))
theorem isKey_out {H : Hp} : ∀ {out : List Value} {ks : List (List Key)}, PySem.W.EachIs (isKey H) out ks → ∃ ts : List Addr, out = ts.map Value.ref ∧ Paired (fun t k => H t = some (.tup (k.map kV))) ts ks
  | _, _, .nil => ⟨[], rfl, .nil⟩
  | _, _, .cons ⟨t, e, h⟩ r => by
    obtain ⟨ts, e2, h2⟩ := isKey_out r
    exact ⟨t :: ts, by rw [e, e2]; rfl, .cons h h2⟩
theorem vals_ref : ∀ bs : List Addr, Vals (bs.map V.ref) (bs.map Value.ref)
  | [] => .nil
  | _ :: r => .cons rfl (vals_ref r)
/-- a tuple stays -/
theorem EnvV.tup1 {W : Wp} {tp : Option Addr} {G : GH} {H : Hp} {σ : L2.St} {ρ : PEnv} {τ : TS'} {t : Addr} {vs : List V} (E : EnvV W tp G H σ ρ τ) (h : H t = some (.tup vs)) : ∃ G', Ext tp G H G' H ∧ EnvV W tp G' H σ ρ τ ∧ G'.hp t = some (.tup vs) := by
  cases g : G.hp t with
  | some o =>
    have h2 := E.g _ _ g
    rw [h] at h2
    cases h2
    exact ⟨G, Ext.refl, E, g⟩
  | none =>
    have no : ¬ NT H t := fun ⟨o, z, n⟩ => by rw [h] at z; cases z; cases n
    have e : Ext tp G H (G.upd t (.tup vs)) H := ⟨GS.new g, fun _ _ _ _ h => h, fun q _ n hg => by
      show upd G.hp t _ q = none
      rw [upd_ne (fun z => no (by rw [← z]; exact n))]
      exact hg, fun _ h => h, fun _ h => .inl h, fun _ => rfl⟩
    have nm : NoM tp G t := fun a ha => by
      subst ha
      cases τ with
      | none => exact (show False from E.t).elim
      | some t1 =>
        have t0 : TapeR W G H a t1 := E.t
        exact ⟨fun z => no (by rw [z]; exact t0.n), fun z => no (t0.s.nt _ z)⟩
    exact ⟨_, e, E.ext e (E.g.frz h rfl) (E.t.frz1 g nm), upd_same⟩
theorem EnvV.tups {W : Wp} {tp : Option Addr} {H : Hp} {σ : L2.St} {ρ : PEnv} {τ : TS'} : ∀ {ts : List Addr} {ks : List (List Key)} {G : GH}, EnvV W tp G H σ ρ τ → Paired (fun t k => H t = some (.tup (k.map kV))) ts ks →
    ∃ G', Ext tp G H G' H ∧ EnvV W tp G' H σ ρ τ ∧ Paired (fun t k => G'.hp t = some (.tup (k.map kV))) ts ks
  | _, _, G, E, .nil => ⟨G, Ext.refl, E, .nil⟩
  | _, _, G, E, .cons h r => by
    obtain ⟨G1, e1, E1, h1⟩ := E.tup1 h
    obtain ⟨G2, e2, E2, r2⟩ := EnvV.tups E1 r
    exact ⟨G2, e1.trans e2, E2, .cons (e2.g.s _ _ h1) r2⟩
theorem rpa_keys {K : PySem.W.Frag} {cm : CM} {G : GH} : ∀ k : List Key, RpA K cm G (k.map kV) (k.map kDD)
  | [] => .nil
  | .inl i :: k => .cons (.int i) (rpa_keys k)
  | .inr i :: k => .cons (.str i) (rpa_keys k)
theorem rpa_tups {K : PySem.W.Frag} {cm : CM} {G : GH} : ∀ {ts : List Addr} {ks : List (List Key)}, Paired (fun t k => G.hp t = some (.tup (k.map kV))) ts ks → RpA K cm G (ts.map V.ref) (ks.map fun k => .tup (k.map kDD))
  | _, _, .nil => .nil
  | _, _, .cons h r => .cons (.tup h (rpa_keys _)) (rpa_tups r)
theorem srtT_perm (ks : List (List Key)) : (srtT ks).Perm ks := List.mergeSort_perm _ _
end Np
set_option Elab.async false
set_option linter.all false
set_option maxRecDepth 100000
set_option maxHeartbeats 4000000
namespace Np
open PySem PySem.Spec PyProof.Rows L2
section
open PySem.W PySem.Calls
variable {prog : Program} {w : World} {A : Around} {E : Value → Shared → Prop} {s : Shared}
theorem meetsVals {d : Addr} {es : Array DictEntry} {ep : Nat} (hd : (d == sysModules) = false) :
    MeetsIn prog w (Builtin.«dict.values» ⟨[.ref d], []⟩) (fun _ R s => DT.Raw s.heap d es ep ∧
      R (.ok (.ret (.ref s.heap.objs.size))) { s with heap := s.heap.push (DSub.viewOb "dict_values" d) }) :=
  .of_wp fun A R s ⟨hm, h⟩ => by
    unfold Builtin.«dict.values»
    refine wpAny_bind ?_
    unfold Builtin.Dict.noArgs
    refine wpAny_bind (wpAny_notOrdered_dict hm.typeIs ?_)
    show wpAny _ _ (pure d) _ _ s
    refine wpAny_pure ?_
    show wpAny _ _ (Builtin.Dict.showsAll d >>= _) _ _ s
    unfold Builtin.Dict.showsAll
    rw [if_neg (by rw [hd]; exact Bool.false_ne_true)]
    refine wpAny_bind (wpAny_pure ?_)
    exact wpAny_bind (wpAny_newObj_type (wpAny_pure ⟨_, rfl, h⟩))
end
def rVals : V → List V → Hp → VK → Prop := fun x xs H Q => ∃ (a : Addr) (kvs : List (Key × V)), x = .ref a ∧ xs = [] ∧ H a = some (.dK kvs) ∧ ∀ p, H p = none → Q (.ref p) (upd H p (viewO "dict_values" p a))
theorem mt_vals {X : Cx} : MtR X "dict.values" rVals := by
  intro pins s σ H x xs v us Q I rx rxs h
  obtain ⟨a, kvs, rfl, rfl, ha, q⟩ := h
  cases rx
  cases rxs
  obtain ⟨z, lo, vs, rel, dd⟩ := dk_rd I.hok (.inl ha)
  obtain ⟨o, es, ep, ho, hx, hd, _⟩ := dd
  refine PySem.call_meetsIn PySem.F.slot_dict_values (DT.Raw.typeIs ⟨o, ho, hx, hd⟩) PySem.F.entry_dict_values (PySem.F.args_dict_values_1 _) (meetsVals lo) ⟨⟨o, ho, hx, hd⟩, ?_⟩
  exact ⟨.ref s.heap.objs.size, _, I.laid (t' := s.toks) (fun b u e => Heap.get?_push_of_some _ e) (Nat.le_refl _) (viewO_ok (Heap.get?_push_size _ rfl)), rfl, q _ (I.hok.fresh (Nat.le_refl _))⟩
def rListV : List V → Hp → VK → Prop := fun xs H Q => ∃ (v a : Addr) (kvs : List (Key × V)), xs = [.ref v] ∧ H v = some (viewO "dict_values" v a) ∧ Rd H a (.dK kvs) ∧ ∀ p, H p = none → Q (.ref p) (upd H p (.lst (kvs.map (·.2))))
theorem vals_kv {kvs : List (Key × V)} {vs : List (Key × Value)} (r : KV kvs vs) : Vals (kvs.map (·.2)) (vs.map (·.2)) := by
  induction r with
  | nil => exact .nil
  | cons h t ih => exact .cons h.2 ih
theorem call_listV {X : Cx} (hc : X.calm = true) : CallR X (.type "list") rListV := by
  intro pins s σ H xs us Q I r q
  obtain ⟨v, a, kvs, rfl, hv, hd, q⟩ := q
  obtain ⟨u, rfl, rx⟩ := vals1 r
  cases rx
  obtain ⟨z, lo, vs, rel, dd⟩ := dk_rd I.hok hd
  obtain ⟨ep, hat⟩ := dd.dictAt
  have hvw : s.heap.get? v = some (DSub.viewOb "dict_values" a) := (show ObjOk X.prog X.w H s.heap v (viewO "dict_values" v a) from I.hok v _ hv).1
  refine PySem.W.kdl_call (PySem.W.kdl_values (r := v) (knd := mixKind X.prog X.w) (kvs := vs) (ep := ep)) (I.ok.hd hc) ⟨⟨_, hvw, rfl, rfl⟩, hat⟩ (by rw [← rel.length]; exact z) fun h' tk acc c' hk hD hacc => ?_
  have ea : acc.toList = vs.map (·.2) := by
    apply List.ext_getElem?
    intro j
    rw [List.getElem?_map]
    have hl : acc.toList.length = vs.length := by rw [Array.length_toList]; exact hacc.1
    cases hj : acc.toList[j]? with
    | none =>
      have h1 := List.getElem?_eq_none_iff.mp hj
      rw [List.getElem?_eq_none (by omega)]
      rfl
    | some u =>
      obtain ⟨k, e⟩ := hacc.2 j u (by rw [← Array.getElem?_toList]; exact hj)
      rw [e]
      rfl
  have hv2 : Vals (kvs.map (·.2)) acc.toList := by rw [ea]; exact vals_kv rel
  exact ⟨.ref s.heap.objs.size, upd H s.heap.objs.size (.lst (kvs.map (·.2))), I.laid (t' := tk) hk (Nat.le_refl _)
    (show ObjOk X.prog X.w _ _ _ (.lst (kvs.map (·.2))) from ⟨by rw [List.length_map]; exact z, acc.toList, c', hv2, by rw [Array.toArray_toList]; exact hD⟩), rfl, q _ (I.hok.fresh (Nat.le_refl _))⟩
def dListVals (d : DE) : DE := fun ρ τ => (d ρ τ).bind fun x τ1 => match x, τ1 with
  | .ptr q, some t => match t.st[q]? with
    | some (.dK kvs) => .ok (.lst (kvs.map (·.2))) τ1
    | _ => .no
  | _, _ => .no
theorem RpK.snds {K : PySem.W.Frag} {cm : CM} {G : GH} : ∀ {us : List (Key × V)} {ds : List (Key × DD)}, RpK K cm G us ds → RpA K cm G (us.map (·.2)) (ds.map (·.2))
  | _, _, .nil => .nil
  | _, _, .cons h r => .cons h (RpK.snds r)
section
variable {W : Wp} {Wx : L2.St → XK} {td : TE} {δd : DE}
theorem dn_listVals (hd : Dn W Wx td δd) : Dn W Wx (tCB rListV (tCons (tBM0 W.K "dict" rVals td) tNil)) (dListVals δd) := fun tp G H σ ρ τ Q E P =>
  hd _ _ _ _ _ _ _ E (P.bind fun x τ1 v G1 H1 e1 E1 r1 P1 => by
    split at P1
    · rename_i q t
      split at P1
      · rename_i kvs hq
        obtain ⟨a, p, rfl, rfl, hm, hp, us, hv, rk⟩ := E1.sto r1 hq
        refine ⟨.inr (.inr (.inl ⟨rfl, .inl ⟨us, hv⟩⟩)), p, us, rfl, rfl, hv, fun v hn => ?_⟩
        · refine ⟨v, p, us, rfl, upd_same, .inl ?_, fun l hl => ?_⟩
          · rw [upd_ne (fun z => by rw [z] at hv; rw [hv] at hn; cases hn)]
            exact hv
          · have E2 := E1.newH (o := viewO "dict_values" v p) hn
            exact P1 _ _ _ ((Ext.newH hn).trans (Ext.new hl E2.g)) (E2.new hl) (.lst upd_same ((RpK.snds rk).mono (GS.new (E2.g.free hl))))
      · exact P1.elim
    · exact P1.elim)
end
end Np
set_option Elab.async false
set_option linter.all false
set_option maxRecDepth 100000
set_option maxHeartbeats 4000000
namespace Np
open PySem PySem.Spec PyProof.Rows L2
def isTup (H : Hp) (u : V) (k : List Key) : Prop := ∃ t, u = .ref t ∧ H t = some (.tup (k.map kV))
def rSortPL (K : PySem.W.Frag) : List V → Hp → VK → Prop := fun xs H Q => ∃ (a : Addr) (us : List V) (ks : List (List Key)), xs = [.ref a] ∧ SqL K H a us ∧ Paired (isTup H) us ks ∧ ks.all okP = true ∧
  ∀ (ts : List Addr) (p : Addr), Paired (fun t k => H t = some (.tup (k.map kV))) ts (srtT ks) → H p = none → Q (.ref p) (upd H p (.lst (ts.map V.ref)))
theorem each_of {H : Hp} : ∀ {us : List V} {ks : List (List Key)} {its : List Value}, Paired (isTup H) us ks → Vals us its → PySem.W.EachIs (isKey H) its ks
  | _, _, _, .nil, .nil => .nil
  | _, _, _, .cons ⟨t, e, h⟩ r, .cons v vs => by
    subst e
    cases v
    exact .cons ⟨t, rfl, h⟩ (each_of r vs)
theorem call_sortedPL {X : Cx} {k : Nat} (K : PySem.W.Frag) (hr : Room k X.A) (hK : X.K = K := by rfl) : CallR X (.builtin "sorted") (rSortPL K) := by
  subst hK
  intro pins s σ H xs us0 Q I r h
  obtain ⟨a, us, ks, rfl, hl, hp, hok, q⟩ := h
  obtain rfl := Vals.ref1 r
  obtain ⟨its, rv, pl, hz⟩ := I.list hl
  have ek := each_of hp rv
  have mem : ∀ k ∈ ks, ∃ s i, k = [.inr s, .inl i] := fun k hk => okP_of (List.all_eq_true.mp hok k hk)
  have hln : ks.length = us.length := (Paired.length hp).symm
  have hsz : ks.length ≤ sizeLine := by rw [hln]; exact hz
  refine PySem.W.sorted_data (enc := encT) (by simpa using pl.isList) ek (ek.mono fun v k hv => ?_) ?_ ?_ hsz ?_ fun out hlo eo => ?_
  · obtain ⟨t, rfl, ht⟩ := hv
    obtain ⟨_, its, rv, h1⟩ := (show ObjOk X.prog X.w H s.heap t (.tup (k.map kV)) from I.hok t _ ht)
    obtain ⟨o, e1, e2, n, e3⟩ := h1
    exact ⟨[], Reads.tuple e1 e2 e3 (by simpa using reads_keys rv)⟩
  · intro a ha b hb
    obtain ⟨a', ha', rfl⟩ := List.mem_map.mp ha
    obtain ⟨b', hb', rfl⟩ := List.mem_map.mp hb
    obtain ⟨_, _, rfl⟩ := mem a' ha'
    obtain ⟨_, _, rfl⟩ := mem b' hb'
    rfl
  · refine .inl fun a ha => ?_
    obtain ⟨a', ha', rfl⟩ := List.mem_map.mp ha
    obtain ⟨_, _, rfl⟩ := mem a' ha'
    exact ⟨_, _, rfl⟩
  · intro a ha
    obtain ⟨s, i, rfl⟩ := mem a ha
    have := hr.un
    have e : (encT [.inr s, .inl i]).depth ≤ 64 := by
      show PyData.depth (.tuple [.str s, .int i]) ≤ 64
      simp [PyData.depth, PyData.depthAll]
    show X.A.units + 2 + _ < _
    omega
  · obtain ⟨ts, rfl, hts⟩ := isKey_out eo
    obtain ⟨e', he'⟩ := PyProof.Rows.sortedAll_at s.heap its (ts.map Value.ref).toArray
    have hlen : (ts.map V.ref).length ≤ sizeLine := by
      rw [List.length_map]
      rw [List.length_map] at hlo
      omega
    refine ⟨.ref (s.heap.objs.size + 1), upd H (s.heap.objs.size + 1) (.lst (ts.map V.ref)), I.laid (t' := s.toks) (fun b u e => PyProof.Rows.sortedAll_old e) (Nat.le_succ _)
      (show ObjOk X.prog X.w _ _ _ (.lst (ts.map V.ref)) from ⟨hlen, ts.map Value.ref, e', vals_ref ts, he'⟩), rfl, q ts _ hts (I.hok.fresh (Nat.le_succ _))⟩
def pairK : DD → Option (List Key)
  | .tup [.str s, .int n] => some [.inr s, .inl n]
  | _ => none
def pairsK : List DD → Option (List (List Key))
  | [] => some []
  | d :: ds => match pairK d, pairsK ds with
    | some k, some ks => some (k :: ks)
    | _, _ => none
def tupK (k : List Key) : DD := .tup (k.map kDD)
def gSortPL : List DD → Option OC
  | [.lst ds] => (pairsK ds).map fun ks => .lst ((srtT ks).map tupK)
  | _ => none
def dSortPLF (a : DA) : PEnv → TS' → R OC := fun ρ τ => (a ρ τ).bind fun xs τ1 => R.of τ1 (gSortPL xs)
theorem pairK_ok {d : DD} {k : List Key} (h : pairK d = some k) : okP k = true ∧ d = tupK k := by
  unfold pairK at h
  split at h
  · cases h; exact ⟨rfl, rfl⟩
  · cases h
theorem pairsK_ok : ∀ {ds : List DD} {ks : List (List Key)}, pairsK ds = some ks → ks.all okP = true
  | [], _, h => by cases h; rfl
  | d :: ds, _, h => by
    unfold pairsK at h
    split at h
    · rename_i k ks h1 h2
      cases h
      rw [List.all_cons, (pairK_ok h1).1, pairsK_ok h2]
      rfl
    · cases h
section
variable {K : PySem.W.Frag} {cm : CM} {G : GH} {H : Hp}
theorem rpa_kV : ∀ {vs : List V} (k : List Key), RpA K cm G vs (k.map kDD) → vs = k.map kV
  | _, [], .nil => rfl
  | _, .inl i :: k, .cons r rs => by rw [List.map_cons, rpa_kV k rs]; cases r.int_of; rfl
  | _, .inr i :: k, .cons r rs => by rw [List.map_cons, rpa_kV k rs]; cases r.str_of; rfl
theorem rpa_pairs (g : ∀ b o, G.hp b = some o → H b = some o) : ∀ {us : List V} {ds : List DD} {ks : List (List Key)}, RpA K cm G us ds → pairsK ds = some ks → Paired (isTup H) us ks
  | _, _, _, .nil, h => by cases h; exact .nil
  | _, _, _, .cons r rs, h => by
    unfold pairsK at h
    split at h
    · rename_i k ks h1 h2
      cases h
      obtain ⟨_, rfl⟩ := pairK_ok h1
      refine .cons ?_ (rpa_pairs g rs h2)
      cases r with | tup hg ra =>
      rw [rpa_kV _ ra] at hg
      exact ⟨_, rfl, g _ _ hg⟩
    · cases h
end
section
variable {W : Wp} {Wx : L2.St → XK} {ta : TA} {δa : DA}
theorem df_sortPL (ha : DnA W Wx ta δa) : DnF W Wx (tCB (rSortPL W.K) ta) (dSortPLF δa) := fun tp G H σ ρ τ Q E P =>
  ha _ _ _ _ _ _ _ E (P.bind fun as τ1 vs G1 H1 e1 E1 r1 P1 => by
    unfold gSortPL at P1
    split at P1
    · rename_i ds
      cases hks : pairsK ds with
      | none => rw [hks] at P1; exact P1.elim
      | some ks =>
        rw [hks] at P1
        cases r1 with | cons r rr =>
        cases rr
        cases r with | lst hg ra =>
        refine ⟨_, _, ks, rfl, SqL.of (E1.g _ _ hg), rpa_pairs (fun b o h => E1.g _ _ h) ra hks, pairsK_ok hks, fun ts l hts hn => ?_⟩
        obtain ⟨G2, e2, E2, h2⟩ := E1.tups hts
        exact P1 l [l] G2 _ (e2.trans (Ext.newH hn)) (E2.newH hn) ⟨rfl, _, upd_same, rpa_tups h2⟩ (fr1 hn (E2.g.free hn) (E2.noM hn))
    · exact P1.elim)
end
section
variable {ρ : PEnv} {τ : TS'} {a : DA} {xs : List DD}
def eSPLF (r : R (List DD)) : R OC := r.bind fun xs τ1 => R.of τ1 (gSortPL xs)
@[simp] theorem ev_SortPLF : dSortPLF a ρ τ = eSPLF (a ρ τ) := id rfl
theorem eSPLF_at {ks : List (List Key)} (h : pairsK xs = some ks) : eSPLF (.ok [.lst xs] τ) = .ok (.lst ((srtT ks).map tupK)) τ := by
  show R.of τ ((pairsK xs).map _) = _
  rw [h]
  rfl
def pD (p : Str × Int) : DD := .tup [.str p.1, .int p.2]
theorem pairsK_map : ∀ ps : List (Str × Int), pairsK (ps.map pD) = some (ps.map fun p => [.inr p.1, .inl p.2])
  | [] => rfl
  | p :: ps => by
    rw [List.map_cons, pairsK, pairsK_map ps]
    rfl
/-- list(d.values()) -/
def eLV (r : R DD) : R DD := r.bind fun x τ1 => match x, τ1 with
  | .ptr q, some t => match t.st[q]? with
    | some (.dK kvs) => .ok (.lst (kvs.map (·.2))) τ1
    | _ => .no
  | _, _ => .no
@[simp] theorem ev_ListVals {d : DE} : dListVals d ρ τ = eLV (d ρ τ) := id rfl
theorem eLV_at {t : Tau} {q : Nat} {kvs : List (Key × DD)} (h : t.st[q]? = some (.dK kvs)) : eLV (.ok (.ptr q) (some t)) = .ok (.lst (kvs.map (·.2))) (some t) := by
  show (match t.st[q]? with | some (.dK kvs) => _ | _ => _) = _
  rw [h]
end
end Np
set_option Elab.async false
set_option linter.all false
set_option maxRecDepth 100000
set_option maxHeartbeats 4000000
namespace Np
open PySem PySem.Spec PyProof.Rows L2
def rRange1 : List V → Hp → VK → Prop := fun vs H Q => ∃ j, vs = [V.int j] ∧ ∀ p, H p = none → Q (.ref p) (upd H p (.rng 0 j))
theorem cr_range1 {X : Cx} : CallR X (.type "range") rRange1 := by
  intro pins s σ H vs us Q I r h
  obtain ⟨j, rfl, q⟩ := h
  obtain ⟨u1, rfl, rj⟩ := vals1 r
  obtain ⟨u, rfl⟩ := rj
  refine call_range_1 ⟨.ref s.heap.objs.size, upd H s.heap.objs.size (.rng 0 j), I.laid (t' := s.toks + 2) (fun b o e => Heap.get?_push_of_some _ e) (Nat.le_refl _) ?_, rfl, q _ (I.hok.fresh (Nat.le_refl _))⟩
  exact ⟨s.toks, u, s.toks + 1, Heap.get?_push_size _ rfl⟩
def rRange2 : List V → Hp → VK → Prop := fun vs H Q => ∃ i j, vs = [V.int i, V.int j] ∧ ∀ p, H p = none → Q (.ref p) (upd H p (.rng i j))
def rInRng : R2 := fun x y H Q => ∃ i a lo hi, x = V.int i ∧ y = V.ref a ∧ H a = some (.rng lo hi) ∧ Q (.bl (decide (lo ≤ i ∧ i < hi))) H
theorem op_inRng {X : Cx} : OpR X (compareOp .In) rInRng := op_in_rng
theorem cr_rng2 {X : Cx} : CallR X (.type "range") rRange2 := cr_range2
def gInR (x lo hi : DD) : Option DD := match x, lo, hi with
  | .int i, .int a, .int b => some (.bl (decide (a ≤ i ∧ i < b)))
  | _, _, _ => none
def dInR1 (x a : DE) : DE := fun ρ τ => (x ρ τ).bind fun i τ1 => (a ρ τ1).bind fun j τ2 => R.of τ2 (gInR i (.int 0) j)
def dInR2 (x a b : DE) : DE := fun ρ τ => (x ρ τ).bind fun i τ1 => (a ρ τ1).bind fun j τ2 => (b ρ τ2).bind fun k τ3 => R.of τ3 (gInR i j k)
section
variable {W : Wp} {Wx : L2.St → XK} {tx ta tb : TE} {δx δa δb : DE}
theorem gInR_some {x a b c : DD} (h : gInR x a b = some c) : ∃ i j k, x = .int i ∧ a = .int j ∧ b = .int k ∧ c = .bl (decide (j ≤ i ∧ i < k)) := by
  unfold gInR at h
  split at h
  · cases h; exact ⟨_, _, _, rfl, rfl, rfl, rfl⟩
  · cases h
theorem dn_inR1 (hx : Dn W Wx tx δx) (ha : Dn W Wx ta δa) : Dn W Wx (tOp rInRng tx (tCB rRange1 (tCons ta tNil))) (dInR1 δx δa) := fun tp G H σ ρ τ Q E P =>
  hx _ _ _ _ _ _ _ E (P.bind fun x τ1 v G1 H1 e1 E1 r1 P1 => ha _ _ _ _ _ _ _ E1 (P1.bind fun y τ2 u G2 H2 e2 E2 r2 P2 => by
    obtain ⟨c, hc, P3⟩ := P2.of
    obtain ⟨i, j, k, rfl, hj, rfl, rfl⟩ := gInR_some hc
    cases hj
    refine ⟨k, by rw [r2.int_of], fun p hn => ⟨i, p, 0, k, r1.int_of, rfl, upd_same, ?_⟩⟩
    exact P3 _ _ _ (Ext.newH hn) (E2.newH hn) (.bl _)))
theorem dn_inR2 (hx : Dn W Wx tx δx) (ha : Dn W Wx ta δa) (hb : Dn W Wx tb δb) : Dn W Wx (tOp rInRng tx (tCB rRange2 (tCons ta (tCons tb tNil)))) (dInR2 δx δa δb) := fun tp G H σ ρ τ Q E P =>
  hx _ _ _ _ _ _ _ E (P.bind fun x τ1 v G1 H1 e1 E1 r1 P1 => ha _ _ _ _ _ _ _ E1 (P1.bind fun y τ2 u G2 H2 e2 E2 r2 P2 => hb _ _ _ _ _ _ _ E2 (P2.bind fun z τ3 w G3 H3 e3 E3 r3 P3 => by
    obtain ⟨c, hc, P4⟩ := P3.of
    obtain ⟨i, j, k, rfl, rfl, rfl, rfl⟩ := gInR_some hc
    refine ⟨j, k, by rw [r2.int_of, r3.int_of], fun p hn => ⟨i, p, j, k, r1.int_of, rfl, upd_same, ?_⟩⟩
    exact P4 _ _ _ (Ext.newH hn) (E3.newH hn) (.bl _))))
end
section
variable {ρ : PEnv} {τ : TS'} {x a b : DE} {i j k : DD}
def eR1 (r : R DD) (a : DE) (ρ : PEnv) : R DD := r.bind fun i τ1 => (a ρ τ1).bind fun j τ2 => R.of τ2 (gInR i (.int 0) j)
def eR2 (r : R DD) (i : DD) : R DD := r.bind fun j τ2 => R.of τ2 (gInR i (.int 0) j)
@[simp] theorem ev_InR1 : dInR1 x a ρ τ = eR1 (x ρ τ) a ρ := id rfl
@[simp] theorem eR1_ok : eR1 (.ok i τ) a ρ = eR2 (a ρ τ) i := id rfl
@[simp] theorem eR2_ok : eR2 (.ok j τ) i = R.of τ (gInR i (.int 0) j) := id rfl
def eR3 (r : R DD) (a b : DE) (ρ : PEnv) : R DD := r.bind fun i τ1 => (a ρ τ1).bind fun j τ2 => (b ρ τ2).bind fun k τ3 => R.of τ3 (gInR i j k)
def eR4 (r : R DD) (i : DD) (b : DE) (ρ : PEnv) : R DD := r.bind fun j τ2 => (b ρ τ2).bind fun k τ3 => R.of τ3 (gInR i j k)
def eR5 (r : R DD) (i j : DD) : R DD := r.bind fun k τ3 => R.of τ3 (gInR i j k)
@[simp] theorem ev_InR2 : dInR2 x a b ρ τ = eR3 (x ρ τ) a b ρ := id rfl
@[simp] theorem eR3_ok : eR3 (.ok i τ) a b ρ = eR4 (a ρ τ) i b ρ := id rfl
@[simp] theorem eR4_ok : eR4 (.ok j τ) i b ρ = eR5 (b ρ τ) i j := id rfl
@[simp] theorem eR5_ok : eR5 (.ok k τ) i j = R.of τ (gInR i j k) := id rfl
@[simp] theorem gInR_eq {i a b : Int} : gInR (.int i) (.int a) (.int b) = some (.bl (decide (a ≤ i ∧ i < b))) := id rfl
end
end Np
set_option Elab.async false
set_option linter.all false
set_option maxRecDepth 100000
set_option maxHeartbeats 4000000
namespace Nk50
open PySem L2 Np
def b_UnknownD_strD : DS :=
    (dRet (dJs [(dC (.str "no ")), (dUn gFmt (dFx (fun (s : PySem.Str) => decide (s ∈ (["Unknown"] : List PySem.Str))) "name" (dV 0)))] Str.empty))
def d_UnknownD_strD : Fn := bodyF 1 b_UnknownD_strD
def b_rate_at_L1 : DS :=
    (dIfS (dAnd (dTest (dOp (gEq false) (dV 4) (dV 2))) (dTest (dOp gLt (dV 3) (dCall (c1 gLenL) (dCons (dV 5) dNil)))))
    (dRet (dOp gIxT (dV 5) (dV 3)))
    dNx)
def b_rate_at_2 : DS :=
    (dRet (dC (.int 0)))
def b_rate_at_1 : DS :=
    (dSeq (dFor (dIList (dV 0)) (.tp [(.nm 4), (.nm 5)])
    b_rate_at_L1)
    b_rate_at_2)
def b_rate_at : DS :=
    (dSeq (dAsgT (dV 1) (.tp [(.nm 2), (.nm 3)]))
    b_rate_at_1)
def d_rate_at : Fn := bodyF 6 b_rate_at
def b_is_open_1 : DS :=
    (dRet (dAndV (dChain gLe gLt (dV 3) (dOp gIxT (dV 1) (dC (.int 1))) (dV 4)) (dOp (gInF true) (dOp gIxT (dV 1) (dC (.int 0))) (dV 6))))
def b_is_open : DS :=
    (dSeq (dAsgT (dV 0) (.tp [(.nm 2), (.nm 3), (.nm 4), (.nm 5), (.nm 6)]))
    b_is_open_1)
def d_is_open : Fn := bodyF 7 b_is_open
def b_need_of_1 : DS :=
    (dRet (dIf (dTest (dOp gNeD (dV 2) (dLst dNil))) (dOp gIxL (dV 2) (dC (.int 0))) (dC .non)))
def b_need_of : DS :=
    (dSeq (dSet 2 (dLc (dIList (dV 0)) (.nm 3) (dTest (dOp (gEq false) (dOp gIxT (dV 3) (dC (.int 0))) (dV 1))) (dV 3) [3]))
    b_need_of_1)
def d_need_of : Fn := bodyF 4 b_need_of
def b_picked_L1_2 : DS :=
    (dDPut (dV 2) (dV 3) (dV 4))
def b_picked_L1_1 : DS :=
    (dSeq (dIfS (dTest (dOp (gIsN false) (dV 4) (dC .non)))
    (dRaise "Unknown" ["name"] (dCons (dV 3) dNil))
    dNx)
    b_picked_L1_2)
def b_picked_L1 : DS :=
    (dSeq (dSet 4 (dCallN 2 d_need_of [] (dpCons (dpE (dV 0)) (dpCons (dpE (dV 3)) dpNil))))
    b_picked_L1_1)
def b_picked_2 : DS :=
    (dRet (dListVals (dV 2)))
def b_picked_1 : DS :=
    (dSeq (dFor (dITup (dV 1)) (.nm 3)
    b_picked_L1)
    b_picked_2)
def b_picked : DS :=
    (dSeq (dSet 2 dNewK)
    b_picked_1)
def d_picked : Fn := bodyF 5 b_picked
def b_open_slots_L2 : DS :=
    (dIfS (dAnd (dTest (dOp gGt (dV 6) (dC (.int 0)))) (dTest (dCall (c1 gAnyL) (dCons (dLc (dIList (dV 1)) (.nm 7) dYes (dCallN 2 d_is_open [] (dpCons (dpE (dV 7)) (dpCons (dpE (dTup (dCons (dV 3) (dCons (dV 5) dNil)))) dpNil))) [7]) dNil))))
    (dApp 2 (dTup (dCons (dV 3) (dCons (dV 5) dNil))))
    dNx)
def b_open_slots_L1 : DS :=
    (dFor (dIEnumT (dCons (dV 4) dNil)) (.tp [(.nm 5), (.nm 6)])
    b_open_slots_L2)
def b_open_slots_2 : DS :=
    (dFrz 2 (dRetF (dSortPLF (dCons (dV 2) dNil))))
def b_open_slots_1 : DS :=
    (dSeq (dFor (dIList (dV 0)) (.tp [(.nm 3), (.nm 4)])
    b_open_slots_L1)
    b_open_slots_2)
def b_open_slots : DS :=
    (dSeq (dSetO 2 (dLstF dNil))
    b_open_slots_1)
def d_open_slots : FnO := bodyO 8 b_open_slots
def b_slots_of : DS :=
    (dRetF (dCallON 2 d_open_slots [] (dpCons (dpE (dV 0)) (dpCons (dpE (dCallP 2 d_picked [] (dpCons (dpE (dV 1)) (dpCons (dpE (dV 2)) dpNil)))) dpNil))))
def d_slots_of : FnO := bodyO 3 b_slots_of
def b_bound_2 : DS :=
    (dRet (dSumS (dCons (dLc (dIList (dV 3)) (.nm 6) dYes (dOp gIxT (dV 6) (dC (.int 3))) [6]) dNil) (dCons (dOp Np.gSub (dC (.int 0)) (dCall (c1 gSum) (dCons (dV 4) dNil))) dNil)))
def b_bound_1 : DS :=
    (dSeq (dSet 4 (dLc (dIList (dFz (dCallON 2 d_open_slots [] (dpCons (dpE (dV 0)) (dpCons (dpE (dV 3)) dpNil))))) (.nm 5) dYes (dCallN 2 d_rate_at [] (dpCons (dpE (dV 0)) (dpCons (dpE (dV 5)) dpNil))) [5]))
    b_bound_2)
def b_bound : DS :=
    (dSeq (dSet 3 (dCallP 2 d_picked [] (dpCons (dpE (dV 1)) (dpCons (dpE (dV 2)) dpNil))))
    b_bound_1)
def d_bound : Fn := bodyF 7 b_bound
def b__law_draw_9 : DS :=
    (dRet (dOp gMod (dOp gFdiv (dV 5) (dC (.int 64))) (dV 1)))
def b__law_draw_8 : DS :=
    (dSeq (dIfS (dTest (dOp gGt (dV 1) (dOp gPow (dC (.int 10)) (dC (.int 6)))))
    (dSet 5 (dOp gAdd (dOp gMul (dV 5) (dC (.int 2147483629))) (dOp gMod (dOp gMul (dOp gMod (dV 5) (dC (.int 1000003))) (dC (.int 48271))) (dC (.int 2147483587)))))
    dNx)
    b__law_draw_9)
def b__law_draw_7 : DS :=
    (dSeq (dSet 5 (dOp gMod (dOp gMul (dOp gMod (dOp gAdd (dOp gPow (dV 5) (dC (.int 3))) (dOp gMul (dC (.int 69621)) (dV 3))) (dC (.int 2147483587))) (dC (.int 40692))) (dC (.int 2147483399))))
    b__law_draw_8)
def b__law_draw_6 : DS :=
    (dSeq (dSet 5 (dOp gMod (dOp gMul (dOp gAdd (dOp gMod (dV 4) (dC (.int 2147483629))) (dC (.int 13))) (dOp gAdd (dOp gAdd (dOp gMul (dV 3) (dV 3)) (dOp gMul (dC (.int 7)) (dV 3))) (dC (.int 5)))) (dC (.int 2147483647))))
    b__law_draw_7)
def b__law_draw_5 : DS :=
    (dSeq (dIfS (dAnd (dTest (dOp gLt (dV 3) (dCall (c1 gLenL) (dCons (dTd 0 .cells) dNil)))) (dTest (dOp gGe (dCall (c1 gAbs) (dCons (dV 4) dNil)) (dOp gPow (dC (.int 10)) (dC (.int 18))))))
    (dSeq (dTdPut 0 .left (dOp gFdivN (dCall (c1 gAbs) (dCons (dV 4) dNil)) (dV 1)))
    (dRet (dOp gMod (dCall (c1 gAbs) (dCons (dV 4) dNil)) (dV 1))))
    dNx)
    b__law_draw_6)
def b__law_draw_4 : DS :=
    (dSeq (dIfS (dTest (dOp gNeD (dTd 0 .cells) (dLst dNil)))
    (dSet 4 (dOp gIxL (dTd 0 .cells) (dOp gMod (dV 3) (dCall (c1 gLenL) (dCons (dTd 0 .cells) dNil)))))
    dNx)
    b__law_draw_5)
def b__law_draw_3 : DS :=
    (dSeq (dSet 4 (dOp gAdd (dC (.int 7)) (dOp gMul (dC (.int 31)) (dV 3))))
    b__law_draw_4)
def b__law_draw_2 : DS :=
    (dSeq (dTdPut 0 .at' (dOp gAdd (dV 3) (dC (.int 1))))
    b__law_draw_3)
def b__law_draw_1 : DS :=
    (dSeq (dSet 3 (dTd 0 .at'))
    b__law_draw_2)
def b__law_draw : DS :=
    (dSeq (dIfS (dTest (dOp gGt (dTd 0 .left) (dC (.int 0))))
    (dSeq (dSet 2 (dOp gMod (dTd 0 .left) (dV 1)))
    (dSeq (dTdPut 0 .left (dOp gFdivN (dTd 0 .left) (dV 1)))
    (dRet (dV 2))))
    dNx)
    b__law_draw_1)
def d__law_draw : Fn := bodyF 6 b__law_draw
def b__law_names_6 : DS :=
    (dRet (dLc (dIR1 (dCons (dV 1) dNil)) (.nm 5) dYes (dOp gCatS (dOp gCatS (dSl gSlS (dV 4) dNoP (dPart (dV 6))) (dOp gIxS (dV 2) (dOp gMod (dOp gAdd (dV 7) (dOp gMul (dV 8) (dV 5))) (dC (.int 26))))) (dOp gIxL (dV 10) (dV 5))) [5]))
def b__law_names_5 : DS :=
    (dSeq (dSet 10 (dLc (dIR1 (dCons (dV 1) dNil)) (.nm 5) dYes (dSl gSlS (dSl gSlS (dV 4) (dPart (dOp gAdd (dV 6) (dC (.int 1)))) dNoP) dNoP (dPart (dCall (c2 gMax2) (dCons (dC (.int 0)) (dCons (dOp Np.gSub (dOp Np.gSub (dOp Np.gSub (dV 3) (dV 6)) (dC (.int 1))) (dOp gMul (dV 9) (dOp gMod (dV 5) (dC (.int 4))))) dNil))))) [5]))
    b__law_names_6)
def b__law_names_4 : DS :=
    (dSeq (dAsgT (dTup (dCons (dOp gIxL (dLst (dCons (dC (.int 1)) (dCons (dC (.int 3)) (dCons (dC (.int 5)) (dCons (dC (.int 7)) (dCons (dC (.int 9)) (dCons (dC (.int 11)) dNil))))))) (dCallN 2 d__law_draw [] (dpCons (dpT 0) (dpCons (dpE (dC (.int 6))) dpNil)))) (dCons (dCallN 2 d__law_draw [] (dpCons (dpT 0) (dpCons (dpE (dC (.int 3))) dpNil))) dNil))) (.tp [(.nm 8), (.nm 9)]))
    b__law_names_5)
def b__law_names_3 : DS :=
    (dSeq (dAsgT (dTup (dCons (dCallN 2 d__law_draw [] (dpCons (dpT 0) (dpCons (dpE (dV 3)) dpNil))) (dCons (dCallN 2 d__law_draw [] (dpCons (dpT 0) (dpCons (dpE (dC (.int 26))) dpNil))) dNil))) (.tp [(.nm 6), (.nm 7)]))
    b__law_names_4)
def b__law_names_2 : DS :=
    (dSeq (dSet 4 (dM1 gJoin (dC (.str "")) (dLc (dIR1 (dCons (dV 3) dNil)) (.nm 5) dYes (dOp gIxS (dV 2) (dCallN 2 d__law_draw [] (dpCons (dpT 0) (dpCons (dpE (dC (.int 26))) dpNil)))) [5])))
    b__law_names_3)
def b__law_names_1 : DS :=
    (dSeq (dSet 3 (dOp gAdd (dC (.int 1)) (dCallN 2 d__law_draw [] (dpCons (dpT 0) (dpCons (dpE (dC (.int 8))) dpNil)))))
    b__law_names_2)
def b__law_names : DS :=
    (dSeq (dSet 2 (dC (.str "abcdefghijklmnopqrstuvwxyz")))
    b__law_names_1)
def d__law_names : Fn := bodyF 11 b__law_names
def b__law_shop_L1_2 : DS :=
    (dApp 5 (dTup (dCons (dOp gIxL (dV 3) (dV 7)) (dCons (dCall (c1 gTuple) (dCons (dV 9) dNil)) dNil))))
def b__law_shop_L1_1 : DS :=
    (dSeq (dSet 9 (dLc (dIR1 (dCons (dV 8) dNil)) (.nm 10) dYes (dOp gIxL (dLst (dCons (dC (.int 0)) (dCons (dCallN 2 d__law_draw [] (dpCons (dpT 0) (dpCons (dpE (dOp gAdd (dV 2) (dC (.int 1)))) dpNil))) (dCons (dV 2) dNil)))) (dOp gFdiv (dCallN 2 d__law_draw [] (dpCons (dpT 0) (dpCons (dpE (dC (.int 5))) dpNil))) (dC (.int 2)))) [10]))
    b__law_shop_L1_2)
def b__law_shop_L1 : DS :=
    (dSeq (dSet 8 (dOp gIxL (dLst (dCons (dOp gAdd (dC (.int 1)) (dCallN 2 d__law_draw [] (dpCons (dpT 0) (dpCons (dpE (dC (.int 12))) dpNil)))) (dCons (dC (.int 12)) dNil))) (dCallN 2 d__law_draw [] (dpCons (dpT 0) (dpCons (dpE (dC (.int 2))) dpNil)))))
    b__law_shop_L1_1)
def b__law_shop_L2_4 : DS :=
    (dFrz 13 (dApp 6 (dTup (dCons (dOp gIxL (dV 4) (dV 7)) (dCons (dV 11) (dCons (dV 12) (dCons (dOp gAdd (dC (.int 1)) (dCallN 2 d__law_draw [] (dpCons (dpT 0) (dpCons (dpE (dOp gMul (dC (.int 2)) (dV 2))) dpNil)))) (dCons (dCall (c1 gTuple) (dCons (dV 13) dNil)) dNil))))))))
def b__law_shop_L2_3 : DS :=
    (dSeq (dIfS (dAnd (dBorT 13 (dTest (dOp gNeD (dV 13) (dLst dNil)))) (dTest (dOp (gEq false) (dCallN 2 d__law_draw [] (dpCons (dpT 0) (dpCons (dpE (dC (.int 4))) dpNil))) (dC (.int 0)))))
    (dApp 13 (dBor 13 (dOp gIxL (dV 13) (dC (.int 0)))))
    dNx)
    b__law_shop_L2_4)
def b__law_shop_L2_2 : DS :=
    (dSeq (dSetO 13 (dLcF (dIList (dV 3)) (.nm 14) (dTest (dOp (gEq false) (dCallN 2 d__law_draw [] (dpCons (dpT 0) (dpCons (dpE (dC (.int 5))) dpNil))) (dC (.int 0)))) (dV 14) [14]))
    b__law_shop_L2_3)
def b__law_shop_L2_1 : DS :=
    (dSeq (dSet 12 (dOp gAdd (dOp gAdd (dV 11) (dC (.int 1))) (dCallN 2 d__law_draw [] (dpCons (dpT 0) (dpCons (dpE (dOp gIxL (dLst (dCons (dCall (c2 gMin2) (dCons (dC (.int 3)) (dCons (dOp Np.gSub (dC (.int 12)) (dV 11)) dNil))) (dCons (dOp Np.gSub (dC (.int 12)) (dV 11)) dNil))) (dCallN 2 d__law_draw [] (dpCons (dpT 0) (dpCons (dpE (dC (.int 2))) dpNil))))) dpNil)))))
    b__law_shop_L2_2)
def b__law_shop_L2 : DS :=
    (dSeq (dSet 11 (dCallN 2 d__law_draw [] (dpCons (dpT 0) (dpCons (dpE (dC (.int 12))) dpNil))))
    b__law_shop_L2_1)
def b__law_shop_4 : DS :=
    (dFrz 6 (dFrz 5 (dRet (dTup (dCons (dV 5) (dCons (dV 6) dNil))))))
def b__law_shop_3 : DS :=
    (dSeq (dFor (dIR1 (dCons (dCallN 2 d__law_draw [] (dpCons (dpT 0) (dpCons (dpE (dOp gAdd (dOp gIxT (dV 1) (dC (.int 1))) (dC (.int 1)))) dpNil))) dNil)) (.nm 7)
    b__law_shop_L2)
    b__law_shop_4)
def b__law_shop_2 : DS :=
    (dSeq (dFor (dIR1 (dCons (dCallN 2 d__law_draw [] (dpCons (dpT 0) (dpCons (dpE (dOp gAdd (dOp gIxT (dV 1) (dC (.int 0))) (dC (.int 1)))) dpNil))) dNil)) (.nm 7)
    b__law_shop_L1)
    b__law_shop_3)
def b__law_shop_1 : DS :=
    (dSeq (dParOO 5 6 (dLstF dNil) (dLstF dNil))
    b__law_shop_2)
def b__law_shop : DS :=
    (dSeq (dPar 3 4 (dCons (dCallN 2 d__law_names [] (dpCons (dpT 0) (dpCons (dpE (dC (.int 7))) dpNil))) (dCons (dCallN 2 d__law_names [] (dpCons (dpT 0) (dpCons (dpE (dC (.int 24))) dpNil))) dNil)))
    b__law_shop_1)
def d__law_shop : Fn := bodyF 15 b__law_shop
def b__law_rate_L1 : DS :=
    (dIfS (dAnd (dTest (dOp (gEq false) (dV 4) (dV 1))) (dTest (dInR1 (dV 2) (dCall (c1 gLenL) (dCons (dV 5) dNil)))))
    (dSet 3 (dOp gIxT (dV 5) (dV 2)))
    dNx)
def b__law_rate_2 : DS :=
    (dRet (dV 3))
def b__law_rate_1 : DS :=
    (dSeq (dFor (dIList (dV 0)) (.tp [(.nm 4), (.nm 5)])
    b__law_rate_L1)
    b__law_rate_2)
def b__law_rate : DS :=
    (dSeq (dSet 3 (dC (.int 0)))
    b__law_rate_1)
def d__law_rate : Fn := bodyF 6 b__law_rate
def b__law_is_open : DS :=
    (dRet (dAndV (dInR2 (dV 2) (dOp gIxT (dV 0) (dC (.int 1))) (dOp gIxT (dV 0) (dC (.int 2)))) (dOp (gInF true) (dV 1) (dOp gIxT (dV 0) (dC (.int 4))))))
def d__law_is_open : Fn := bodyF 3 b__law_is_open
def b__law_slots_L2 : DS :=
    (dIfS (dTest (dOp gGt (dCallN 3 d__law_rate [] (dpCons (dpE (dV 0)) (dpCons (dpE (dV 3)) (dpCons (dpE (dV 6)) dpNil)))) (dC (.int 0))))
    (dIfS (dTest (dOp gNeD (dLc (dIList (dV 1)) (.nm 7) (dTest (dCallN 3 d__law_is_open [] (dpCons (dpE (dV 7)) (dpCons (dpE (dV 3)) (dpCons (dpE (dV 6)) dpNil))))) (dV 7) [7]) (dLst dNil)))
    (dApp 2 (dTup (dCons (dV 3) (dCons (dV 6) dNil))))
    dNx)
    dNx)
def b__law_slots_L1 : DS :=
    (dFor (dIR1 (dCons (dC (.int 12)) dNil)) (.nm 6)
    b__law_slots_L2)
def b__law_slots_2 : DS :=
    (dFrz 2 (dRet (dV 2)))
def b__law_slots_1 : DS :=
    (dSeq (dFor (dIList (dCall (c1 gSrtT) (dCons (dLc (dIList (dV 0)) (.tp [(.nm 4), (.nm 5)]) dYes (dV 4) [4, 5]) dNil))) (.nm 3)
    b__law_slots_L1)
    b__law_slots_2)
def b__law_slots : DS :=
    (dSeq (dSetO 2 (dLstF dNil))
    b__law_slots_1)
def d__law_slots : Fn := bodyF 8 b__law_slots
def b__law_bound_L1 : DS :=
    (dSet 5 (dOp gAdd (dV 5) (dOp gIxT (dV 4) (dC (.int 3)))))
def b__law_bound_L2 : DS :=
    (dSet 5 (dOp Np.gSub (dV 5) (dCallN 3 d__law_rate [] (dpCons (dpE (dV 0)) (dpCons (dpE (dV 6)) (dpCons (dpE (dV 7)) dpNil))))))
def b__law_bound_4 : DS :=
    (dRet (dV 5))
def b__law_bound_3 : DS :=
    (dSeq (dFor (dIList (dCallN 2 d__law_slots [] (dpCons (dpE (dV 0)) (dpCons (dpE (dV 3)) dpNil)))) (.tp [(.nm 6), (.nm 7)])
    b__law_bound_L2)
    b__law_bound_4)
def b__law_bound_2 : DS :=
    (dSeq (dFor (dIList (dV 3)) (.nm 4)
    b__law_bound_L1)
    b__law_bound_3)
def b__law_bound_1 : DS :=
    (dSeq (dSet 5 (dC (.int 0)))
    b__law_bound_2)
def b__law_bound : DS :=
    (dSeq (dSet 3 (dLc (dIList (dV 1)) (.nm 4) (dTest (dOp (gInF false) (dOp gIxT (dV 4) (dC (.int 0))) (dV 2))) (dV 4) [4]))
    b__law_bound_1)
def d__law_bound : Fn := bodyF 8 b__law_bound
def b__law_refusal_2 : DS :=
    (dRet (dTup (dCons (dC (.str "unknown")) (dCons (dFx (fun (s : PySem.Str) => decide (s ∈ (["Unknown"] : List PySem.Str))) "name" (dV 0)) (dCons (dStrX "Unknown" d_UnknownD_strD (dCons (dV 0) dNil)) dNil)))))
def b__law_refusal_1 : DS :=
    (dSeq (dIfS (dOr (dNot (dTest (dIsX (tb "Unknown" true tb0) (dV 0)))) (dOr (dNot (dTest (dIsX (tb "Unknown" true tb0) (dV 0)))) (dTest (dV 1))))
    (dRet (dTup (dCons (dC (.str "other")) dNil)))
    dNx)
    b__law_refusal_2)
def b__law_refusal : DS :=
    (dSeq (dSet 1 (dIsX (tb "Unknown" false tb0) (dV 0)))
    b__law_refusal_1)
def d__law_refusal : Fn := bodyF 2 b__law_refusal
def b__law_refused_2 : DS :=
    (dRet (dIf (dTest (dOp (gIsN false) (dV 4) (dC .non))) (dTup (dCons (dC (.str "told")) dNil)) (dCallN 1 d__law_refusal [] (dpCons (dpE (dV 4)) dpNil))))
def b__law_refused_1 : DS :=
    (dSeq (dTryK (tb "Unknown" true tb0) 5 4
    (dIfS (dTest (dOp (gEq false) (dV 0) (dC (.int 0))))
    (dDrop (dCallP 3 d_bound [] (dpCons (dpE (dV 1)) (dpCons (dpE (dV 2)) (dpCons (dpE (dV 3)) dpNil)))))
    (dDrop (dFz (dCallOP 3 d_slots_of [] (dpCons (dpE (dV 1)) (dpCons (dpE (dV 2)) (dpCons (dpE (dV 3)) dpNil))))))))
    b__law_refused_2)
def b__law_refused : DS :=
    (dSeq (dSet 4 (dC .non))
    b__law_refused_1)
def d__law_refused : Fn := bodyN 6 b__law_refused
def b__law_right_9 : DS :=
    (dRet (dOp (gEq false) (dCall (c1 gReprA) (dCons (dTup (dCons (dV 0) (dCons (dV 1) (dCons (dV 2) dNil)))) dNil)) (dV 3)))
def b__law_right_8 : DS :=
    (dSeq (dIfS (dTest (dOp (gEq true) (dCall (c1 gReprA) (dCons (dFz (dCallKON 3 0 3 d_slots_of (pickL [] [.z 2, .z 1, .z 0]) dpNil (dpCons (dpE (dV 2)) (dpCons (dpE (dV 1)) (dpCons (dpE (dV 0)) dpNil))))) dNil)) (dCall (c1 gReprA) (dCons (dV 7) dNil))))
    (dRet (dC (.bl false)))
    dNx)
    b__law_right_9)
def b__law_right_7 : DS :=
    (dSeq (dApp 6 (dTup (dCons (dC (.str "a")) (dCons (dC (.int 0)) dNil))))
    b__law_right_8)
def b__law_right_6 : DS :=
    (dSeq (dIfS (dTest (dOp (gEq true) (dCall (c1 gReprA) (dCons (dV 8) dNil)) (dCall (c1 gReprA) (dCons (dV 9) dNil))))
    (dRet (dC (.bl false)))
    dNx)
    b__law_right_7)
def b__law_right_5 : DS :=
    (dSeq (dPar 8 9 (dCons (dCallN 3 d_bound [] (dpCons (dpE (dV 0)) (dpCons (dpE (dV 1)) (dpCons (dpE (dV 2)) dpNil)))) (dCons (dCallN 3 d__law_bound [] (dpCons (dpE (dV 0)) (dpCons (dpE (dV 1)) (dpCons (dpE (dV 2)) dpNil)))) dNil)))
    b__law_right_6)
def b__law_right_4 : DS :=
    (dSeq (dIfS (dBorT 6 (dTest (dOp (gEq true) (dCall (c1 gReprA) (dCons (dV 6) dNil)) (dCall (c1 gReprA) (dCons (dV 7) dNil)))))
    (dRet (dC (.bl false)))
    dNx)
    b__law_right_5)
def b__law_right_3 : DS :=
    (dSeq (dSet 7 (dCallN 2 d__law_slots [] (dpCons (dpE (dV 0)) (dpCons (dpE (dV 4)) dpNil))))
    b__law_right_4)
def b__law_right_2 : DS :=
    (dSeq (dSetO 6 (dCallON 3 d_slots_of [] (dpCons (dpE (dV 0)) (dpCons (dpE (dV 1)) (dpCons (dpE (dV 2)) dpNil)))))
    b__law_right_3)
def b__law_right_1 : DS :=
    (dSeq (dSet 4 (dLc (dIList (dV 1)) (.nm 5) (dTest (dOp (gInF false) (dOp gIxT (dV 5) (dC (.int 0))) (dV 2))) (dV 5) [5]))
    b__law_right_2)
def b__law_right : DS :=
    (dSeq (dSet 3 (dCall (c1 gReprA) (dCons (dTup (dCons (dV 0) (dCons (dV 1) (dCons (dV 2) dNil)))) dNil)))
    b__law_right_1)
def d__law_right : Fn := bodyF 10 b__law_right
def b_law_L2 : DS :=
    (dIfS (dNot (dTest (dCallN 3 d__law_right [] (dpCons (dpE (dV 3)) (dpCons (dpE (dV 4)) (dpCons (dpE (dV 11)) dpNil))))))
    (dRet (dC (.bl false)))
    dNx)
def b_law_L3 : DS :=
    (dIfS (dTest (dOp gNeD (dCallN 4 d__law_refused [] (dpCons (dpE (dV 14)) (dpCons (dpE (dV 3)) (dpCons (dpE (dV 4)) (dpCons (dpE (dV 13)) dpNil))))) (dTup (dCons (dC (.str "unknown")) (dCons (dOp gIxL (dV 9) (dC (.int 0))) (dCons (dOp gCatS (dC (.str "no ")) (dOp gIxL (dV 9) (dC (.int 0)))) dNil))))))
    (dRet (dC (.bl false)))
    dNx)
def b_law_L1_10 : DS :=
    (dFor (dIR1 (dCons (dC (.int 2)) dNil)) (.nm 14)
    b_law_L3)
def b_law_L1_9 : DS :=
    (dSeq (dSet 13 (dCall (c1 gTuple) (dCons (dOp gCat (dOp gCat (dOp gCat (dSl gSlL (dV 10) dNoP (dPart (dV 12))) (dLst (dCons (dOp gIxL (dV 9) (dC (.int 0))) dNil))) (dSl gSlL (dV 10) (dPart (dV 12)) dNoP)) (dSl gSlL (dV 9) (dPart (dC (.int 1))) dNoP)) dNil)))
    b_law_L1_10)
def b_law_L1_8 : DS :=
    (dSeq (dSet 12 (dCallN 2 d__law_draw [] (dpCons (dpT 1) (dpCons (dpE (dOp gAdd (dCall (c1 gLenL) (dCons (dV 10) dNil)) (dC (.int 1)))) dpNil))))
    b_law_L1_9)
def b_law_L1_7 : DS :=
    (dSeq (dIfS (dTest (dOp (gEq true) (dCallKN 3 0 3 d_bound (pickL [] [.z 2, .z 0, .z 1]) dpNil (dpCons (dpE (dV 4)) (dpCons (dpE (dCall (c1 gTuple) (dCons (dV 7) dNil))) (dpCons (dpE (dV 3)) dpNil)))) (dCallN 3 d_bound [] (dpCons (dpE (dV 3)) (dpCons (dpE (dV 4)) (dpCons (dpE (dCall (c1 gTuple) (dCons (dV 10) dNil))) dpNil))))))
    (dRet (dC (.bl false)))
    dNx)
    b_law_L1_8)
def b_law_L1_6 : DS :=
    (dSeq (dFor (dITup (dTup (dCons (dCall (c1 gTuple) (dCons (dV 7) dNil)) (dCons (dCall (c1 gTuple) (dCons (dV 10) dNil)) (dCons (dTup dNil) (dCons (dCall (c1 gTuple) (dCons (dV 5) dNil)) dNil)))))) (.nm 11)
    b_law_L2)
    b_law_L1_7)
def b_law_L1_5 : DS :=
    (dSeq (dSet 10 (dOp gCat (dUn gRevL (dV 7)) (dSl gSlL (dV 7) dNoP (dPart (dCallN 2 d__law_draw [] (dpCons (dpT 1) (dpCons (dpE (dC (.int 3))) dpNil)))))))
    b_law_L1_6)
def b_law_L1_4 : DS :=
    (dSeq (dSet 9 (dSl gSlL (dLc (dIList (dV 9)) (.nm 8) (dTest (dOp (gInF true) (dV 8) (dV 5))) (dV 8) [8]) dNoP (dPart (dC (.int 2)))))
    b_law_L1_5)
def b_law_L1_3 : DS :=
    (dSeq (dSet 9 (dCallN 2 d__law_names [] (dpCons (dpT 1) (dpCons (dpE (dC (.int 26))) dpNil))))
    b_law_L1_4)
def b_law_L1_2 : DS :=
    (dSeq (dSet 7 (dLc (dIList (dV 5)) (.nm 8) (dTest (dOp (gEq false) (dCallN 2 d__law_draw [] (dpCons (dpT 1) (dpCons (dpE (dC (.int 2))) dpNil))) (dC (.int 0)))) (dV 8) [8]))
    b_law_L1_3)
def b_law_L1_1 : DS :=
    (dSeq (dSet 5 (dLc (dIList (dV 4)) (.nm 6) dYes (dOp gIxT (dV 6) (dC (.int 0))) [6]))
    b_law_L1_2)
def b_law_L1 : DS :=
    (dSeq (dAsgT (dCallN 3 d__law_shop [] (dpCons (dpT 1) (dpCons (dpE (dTup (dCons (dC (.int 6)) (dCons (dC (.int 24)) dNil)))) (dpCons (dpE (dOp gIxL (dLst (dCons (dC (.int 4)) (dCons (dC (.int 40)) (dCons (dC (.int 500000)) dNil)))) (dCallN 2 d__law_draw [] (dpCons (dpT 1) (dpCons (dpE (dC (.int 3))) dpNil))))) dpNil)))) (.tp [(.nm 3), (.nm 4)]))
    b_law_L1_1)
def b_law_2 : DS :=
    (dRet (dC (.bl true)))
def b_law_1 : DS :=
    (dSeq (dFor (dIR1 (dCons (dC (.int 10)) dNil)) (.nm 2)
    b_law_L1)
    b_law_2)
def b_law : DS :=
    (dSeq (dMkT 1 0)
    b_law_1)
end Nk50
set_option Elab.async false
set_option linter.all false
set_option maxRecDepth 100000
set_option maxHeartbeats 4000000
namespace Nk50
open PySem L2 Np
def top (i : Nat) : Stmt := PySem.Challenge.pw_nightpaper_k50_slots_and_bounds.main.body.getD i (.Pass ⟨0, 0, 0, 0⟩)
abbrev s_UnknownD_initD : Stmt := inClass (top 2) 0
abbrev nm_UnknownD_initD : List Str := ["self", "name"]
abbrev ps_UnknownD_initD : List Str := ["self", "name"]
abbrev s_UnknownD_strD : Stmt := inClass (top 2) 1
abbrev nm_UnknownD_strD : List Str := ["self"]
abbrev ps_UnknownD_strD : List Str := ["self"]
abbrev s_rate_at : Stmt := top 8
abbrev nm_rate_at : List Str := ["presses", "slot", "press", "hour", "name", "rates"]
abbrev ps_rate_at : List Str := ["presses", "slot"]
abbrev s_is_open : Stmt := top 9
abbrev nm_is_open : List Str := ["need", "slot", "name", "first", "due", "many", "bars"]
abbrev ps_is_open : List Str := ["need", "slot"]
abbrev s_need_of : Stmt := top 10
abbrev nm_need_of : List Str := ["needs", "name", "found", "need"]
abbrev ps_need_of : List Str := ["needs", "name"]
abbrev s_picked : Stmt := top 11
abbrev nm_picked : List Str := ["needs", "names", "found", "name", "need"]
abbrev ps_picked : List Str := ["needs", "names"]
abbrev s_open_slots : Stmt := top 12
abbrev nm_open_slots : List Str := ["presses", "needs", "found", "press", "rates", "hour", "rate", "need"]
abbrev ps_open_slots : List Str := ["presses", "needs"]
abbrev s_slots_of : Stmt := top 13
abbrev nm_slots_of : List Str := ["presses", "needs", "names"]
abbrev ps_slots_of : List Str := ["presses", "needs", "names"]
abbrev s_bound : Stmt := top 14
abbrev nm_bound : List Str := ["presses", "needs", "names", "some", "room", "slot", "need"]
abbrev ps_bound : List Str := ["presses", "needs", "names"]
abbrev s__law_pen : Stmt := top 16
abbrev nm__law_pen : List Str := ["_law_script"]
abbrev ps__law_pen : List Str := ["_law_script"]
abbrev s__law_draw : Stmt := top 17
abbrev nm__law_draw : List Str := ["_law_pen_here", "_law_many", "_law_found", "_law_at", "_law_cell", "_law_number"]
abbrev ps__law_draw : List Str := ["_law_pen_here", "_law_many"]
abbrev s__law_names : Stmt := top 18
abbrev nm__law_names : List Str := ["_law_pen_here", "_law_many", "_law_letters", "_law_size", "_law_word", "_law_k", "_law_at", "_law_first", "_law_step", "_law_cut", "_law_ends"]
abbrev ps__law_names : List Str := ["_law_pen_here", "_law_many"]
abbrev s__law_shop : Stmt := top 19
abbrev nm__law_shop : List Str := ["_law_pen_here", "_law_most", "_law_far", "_law_called", "_law_own", "_law_shops", "_law_tasks", "_law_k", "_law_many", "_law_rates", "_law_hour", "_law_first", "_law_due", "_law_bars", "_law_name"]
abbrev ps__law_shop : List Str := ["_law_pen_here", "_law_most", "_law_far"]
abbrev s__law_rate : Stmt := top 20
abbrev nm__law_rate : List Str := ["_law_shops", "_law_press", "_law_hour", "_law_found", "_law_name", "_law_rates"]
abbrev ps__law_rate : List Str := ["_law_shops", "_law_press", "_law_hour"]
abbrev s__law_is_open : Stmt := top 21
abbrev nm__law_is_open : List Str := ["_law_need", "_law_press", "_law_hour"]
abbrev ps__law_is_open : List Str := ["_law_need", "_law_press", "_law_hour"]
abbrev s__law_slots : Stmt := top 22
abbrev nm__law_slots : List Str := ["_law_shops", "_law_tasks", "_law_found", "_law_press", "_law_name", "_law_rates", "_law_hour", "_law_need"]
abbrev ps__law_slots : List Str := ["_law_shops", "_law_tasks"]
abbrev s__law_bound : Stmt := top 23
abbrev nm__law_bound : List Str := ["_law_shops", "_law_tasks", "_law_called", "_law_some", "_law_need", "_law_found", "_law_press", "_law_hour"]
abbrev ps__law_bound : List Str := ["_law_shops", "_law_tasks", "_law_called"]
abbrev s__law_refusal : Stmt := top 24
abbrev nm__law_refusal : List Str := ["_law_e", "_law_others"]
abbrev ps__law_refusal : List Str := ["_law_e"]
abbrev s__law_refused : Stmt := top 25
abbrev nm__law_refused : List Str := ["_law_way", "_law_shops", "_law_tasks", "_law_called", "_law_kept", "_law_e"]
abbrev ps__law_refused : List Str := ["_law_way", "_law_shops", "_law_tasks", "_law_called"]
abbrev s__law_right : Stmt := top 26
abbrev nm__law_right : List Str := ["_law_shops", "_law_tasks", "_law_called", "_law_kept", "_law_some", "_law_need", "_law_found", "_law_due", "_law_told", "_law_least"]
abbrev ps__law_right : List Str := ["_law_shops", "_law_tasks", "_law_called"]
abbrev s_law : Stmt := top 27
abbrev nm_law : List Str := ["_law_script", "_law_pen_here", "_law_turn", "_law_shops", "_law_tasks", "_law_every", "_law_need", "_law_some", "_law_name", "_law_strange", "_law_mixed", "_law_called", "_law_at", "_law_bad", "_law_way"]
abbrev ps_law : List Str := ["_law_script"]
theorem sc_UnknownD_initD : FnScope nm_UnknownD_initD ps_UnknownD_initD (defScope s_UnknownD_initD) := ⟨rfl, rfl, rfl, by decide +kernel, rfl, by decide +kernel, by decide +kernel⟩
theorem sc_UnknownD_strD : FnScope nm_UnknownD_strD ps_UnknownD_strD (defScope s_UnknownD_strD) := ⟨rfl, rfl, rfl, by decide +kernel, rfl, by decide +kernel, by decide +kernel⟩
theorem sc_rate_at : FnScope nm_rate_at ps_rate_at (defScope s_rate_at) := ⟨rfl, rfl, rfl, by decide +kernel, rfl, by decide +kernel, by decide +kernel⟩
theorem sc_is_open : FnScope nm_is_open ps_is_open (defScope s_is_open) := ⟨rfl, rfl, rfl, by decide +kernel, rfl, by decide +kernel, by decide +kernel⟩
theorem sc_need_of : FnScope nm_need_of ps_need_of (defScope s_need_of) := ⟨rfl, rfl, rfl, by decide +kernel, rfl, by decide +kernel, by decide +kernel⟩
theorem sc_picked : FnScope nm_picked ps_picked (defScope s_picked) := ⟨rfl, rfl, rfl, by decide +kernel, rfl, by decide +kernel, by decide +kernel⟩
theorem sc_open_slots : FnScope nm_open_slots ps_open_slots (defScope s_open_slots) := ⟨rfl, rfl, rfl, by decide +kernel, rfl, by decide +kernel, by decide +kernel⟩
theorem sc_slots_of : FnScope nm_slots_of ps_slots_of (defScope s_slots_of) := ⟨rfl, rfl, rfl, by decide +kernel, rfl, by decide +kernel, by decide +kernel⟩
theorem sc_bound : FnScope nm_bound ps_bound (defScope s_bound) := ⟨rfl, rfl, rfl, by decide +kernel, rfl, by decide +kernel, by decide +kernel⟩
theorem sc__law_pen : FnScope nm__law_pen ps__law_pen (defScope s__law_pen) := ⟨rfl, rfl, rfl, by decide +kernel, rfl, by decide +kernel, by decide +kernel⟩
theorem sc__law_draw : FnScope nm__law_draw ps__law_draw (defScope s__law_draw) := ⟨rfl, rfl, rfl, by decide +kernel, rfl, by decide +kernel, by decide +kernel⟩
theorem sc__law_names : FnScope nm__law_names ps__law_names (defScope s__law_names) := ⟨rfl, rfl, rfl, by decide +kernel, rfl, by decide +kernel, by decide +kernel⟩
theorem sc__law_shop : FnScope nm__law_shop ps__law_shop (defScope s__law_shop) := ⟨rfl, rfl, rfl, by decide +kernel, rfl, by decide +kernel, by decide +kernel⟩
theorem sc__law_rate : FnScope nm__law_rate ps__law_rate (defScope s__law_rate) := ⟨rfl, rfl, rfl, by decide +kernel, rfl, by decide +kernel, by decide +kernel⟩
theorem sc__law_is_open : FnScope nm__law_is_open ps__law_is_open (defScope s__law_is_open) := ⟨rfl, rfl, rfl, by decide +kernel, rfl, by decide +kernel, by decide +kernel⟩
theorem sc__law_slots : FnScope nm__law_slots ps__law_slots (defScope s__law_slots) := ⟨rfl, rfl, rfl, by decide +kernel, rfl, by decide +kernel, by decide +kernel⟩
theorem sc__law_bound : FnScope nm__law_bound ps__law_bound (defScope s__law_bound) := ⟨rfl, rfl, rfl, by decide +kernel, rfl, by decide +kernel, by decide +kernel⟩
theorem sc__law_refusal : FnScope nm__law_refusal ps__law_refusal (defScope s__law_refusal) := ⟨rfl, rfl, rfl, by decide +kernel, rfl, by decide +kernel, by decide +kernel⟩
theorem sc__law_refused : FnScope nm__law_refused ps__law_refused (defScope s__law_refused) := ⟨rfl, rfl, rfl, by decide +kernel, rfl, by decide +kernel, by decide +kernel⟩
theorem sc__law_right : FnScope nm__law_right ps__law_right (defScope s__law_right) := ⟨rfl, rfl, rfl, by decide +kernel, rfl, by decide +kernel, by decide +kernel⟩
theorem sc_law : FnScope nm_law ps_law (defScope s_law) := ⟨rfl, rfl, rfl, by decide +kernel, rfl, by decide +kernel, by decide +kernel⟩
structure Ad where
  NightError : Addr
  Unknown : Addr
  NoPlace : Addr
  TooMany : Addr
  TooLate : Addr
  NoCopies : Addr
  cm : CM
structure Txt (K : PySem.W.Frag) (mg : Str → Option Value) (c : Ad) : Prop where
  b_IndexError : mg "IndexError" = none
  b_KeyError : mg "KeyError" = none
  b_OverflowError : mg "OverflowError" = none
  b_RuntimeError : mg "RuntimeError" = none
  b_ValueError : mg "ValueError" = none
  b_ZeroDivisionError : mg "ZeroDivisionError" = none
  b_abs : mg "abs" = none
  b_any : mg "any" = none
  b_enumerate : mg "enumerate" = none
  b_isinstance : mg "isinstance" = none
  b_len : mg "len" = none
  b_list : mg "list" = none
  b_max : mg "max" = none
  b_min : mg "min" = none
  b_range : mg "range" = none
  b_repr : mg "repr" = none
  b_sorted : mg "sorted" = none
  b_str : mg "str" = none
  b_sum : mg "sum" = none
  b_tuple : mg "tuple" = none
  g_NightError : mg "NightError" = some (.ref c.NightError)
  g_Unknown : mg "Unknown" = some (.ref c.Unknown)
  g_NoPlace : mg "NoPlace" = some (.ref c.NoPlace)
  g_TooMany : mg "TooMany" = some (.ref c.TooMany)
  g_TooLate : mg "TooLate" = some (.ref c.TooLate)
  g_NoCopies : mg "NoCopies" = some (.ref c.NoCopies)
  oex_Unknown : OexO bKey K c.Unknown
  bi_Unknown : PySem.W.findCls K (.type bKey.B) (.type "type") "__init__" = some (.val (.builtin bKey.initId))
  exc_Unknown : ExcC K c.Unknown
  no_Unknown_name : PySem.W.findIn K (.ref c.Unknown) "name" = some none
  exm_Unknown_NightError : PySem.W.exmOne K (.ref c.Unknown) (.ref c.NightError) = some false
  exm_Unknown_NoPlace : PySem.W.exmOne K (.ref c.Unknown) (.ref c.NoPlace) = some false
  exm_Unknown_TooMany : PySem.W.exmOne K (.ref c.Unknown) (.ref c.TooMany) = some false
  exm_Unknown_Unknown : PySem.W.exmOne K (.ref c.Unknown) (.ref c.Unknown) = some true
  kit_Unknown_NightError : PySem.W.kitOne K (.ref c.Unknown) (.ref c.NightError) = some false
  kit_Unknown_NoPlace : PySem.W.kitOne K (.ref c.Unknown) (.ref c.NoPlace) = some false
  kit_Unknown_TooMany : PySem.W.kitOne K (.ref c.Unknown) (.ref c.TooMany) = some false
  kit_Unknown_TooLate : PySem.W.kitOne K (.ref c.Unknown) (.ref c.TooLate) = some false
  kit_Unknown_NoCopies : PySem.W.kitOne K (.ref c.Unknown) (.ref c.NoCopies) = some false
  kit_Unknown_ValueError : PySem.W.kitOne K (.ref c.Unknown) (.type "ValueError") = some false
  kit_Unknown_Unknown : PySem.W.kitOne K (.ref c.Unknown) (.ref c.Unknown) = some true
  kit_Unknown_KeyError : PySem.W.kitOne K (.ref c.Unknown) (.type "KeyError") = some true
  cm_Unknown : c.cm "Unknown" = c.Unknown
theorem ok_UnknownD_initD {P : Program} {w : World} {K : PySem.W.Frag} {mg : Str → Option Value} {base : Heap} {c : Ad} {f : Addr} {fd : FuncData} (T : Txt K mg c) (F : Fun K "__init__" "Unknown.__init__" s_UnknownD_initD f fd) : FnOk P w K mg base CX0 1 f fd ps_UnknownD_initD (spInit c.Unknown ["name"]) := by
  refine F.ok sc_UnknownD_initD (fun vs H Q E h => ?_) (fun cdv A outer s H vs Q E hr h => ?_)
  · obtain ⟨a, ws, rfl, hl, _⟩ := h
    exact congrArg Nat.succ hl
  · obtain ⟨a, ws, rfl, hl, ha, k⟩ := h
    obtain ⟨w0, rfl⟩ : ∃ w0 : V, ws = [w0] := by
      match ws, hl with
      | [w0], _ => exact ⟨_, rfl⟩
    refine ⟨_, (pss_cons (ps_expr (pe_binitB (b := bKey) K bKey_ok rfl T.b_KeyError T.bi_Unknown (pa_cons (pv 0) (pa_cons (pv 1) pa_nil))))
      (pss_one (ps_ostB (b := bKey) K (pv 0) (pv 1)))), ?_⟩
    refine ⟨_, rfl, _, rfl, a, _, [_], rfl, (by show 1 ≤ 1000; decide), T.oex_Unknown, ha, ?_⟩
    refine ⟨_, rfl, _, rfl, a, _, rfl, T.oex_Unknown, T.no_Unknown_name, .inl ⟨ha, fun d nd ne => ?_⟩⟩
    refine k d _ nd ne ?_ ?_ (fun b h1 h2 => ?_)
    · exact upd_same
    · rw [upd_ne ne]
      exact upd_same
    · rw [upd_ne h1, upd_ne h2]
end Nk50
set_option Elab.async false
set_option linter.all false
set_option maxRecDepth 100000
set_option maxHeartbeats 4000000
namespace Nk50
open PySem L2 Np
theorem draw_t {n : Nat} {m T cell : Int} {t t0 : Tau} (hm : 0 < m) (hT : 0 ≤ T ∧ T < 2 ^ 60) : ∃ r, eBody (b__law_draw_6 [some .tape, some (.fr (.int m)), none, some (.fr (.int T)), some (.fr (.int cell)), none] (some t)) (some t0) = .ok (.int r) (some t) ∧ 0 ≤ r ∧ r < m := by
  have c1 := Int.emod_nonneg cell (show (2147483629 : Int) ≠ 0 by omega)
  have c2 := Int.emod_lt_of_pos cell (show (0 : Int) < 2147483629 by omega)
  generalize hx : (cell % 2147483629 + 13) * (T * T + 7 * T + 5) % 2147483647 = x
  have x0 : 0 ≤ x := by rw [← hx]; exact Int.emod_nonneg _ (by omega)
  have x1 : x < 2147483647 := by rw [← hx]; exact Int.emod_lt_of_pos _ (by omega)
  generalize hy : (x ^ 3 + 69621 * T) % 2147483587 * 40692 % 2147483399 = y
  have y0 : 0 ≤ y := by rw [← hy]; exact Int.emod_nonneg _ (by omega)
  have y1 : y < 2147483399 := by rw [← hy]; exact Int.emod_lt_of_pos _ (by omega)
  have m1 : CMul T T := .inl ⟨by omega, by omega⟩
  have m2 : CMul 7 T := .inl ⟨by decide, by decide⟩
  have m3 : CMul (cell % 2147483629 + 13) (T * T + 7 * T + 5) := .inl ⟨by omega, by omega⟩
  have m4 : CPow x 3 := ⟨by decide, by decide, by omega⟩
  have m5 : CMul 69621 T := .inl ⟨by decide, by decide⟩
  have m6 : CMul ((x ^ 3 + 69621 * T) % 2147483587) 40692 := .inr ⟨by decide, by decide⟩
  have m7 : CMul y 2147483629 := .inr ⟨by decide, by decide⟩
  have m8 : CMul (y % 1000003) 48271 := .inr ⟨by decide, by decide⟩
  have m9 : ∀ z, CDiv z 64 := fun z => ⟨by decide, by decide⟩
  have p6 : CPow 10 6 := by decide
  by_cases hb : (1000000 : Int) < m
  · refine ⟨(y * 2147483629 + y % 1000003 * 48271 % 2147483587) / 64 % m, ?_, Int.emod_nonneg _ (by omega), Int.emod_lt_of_pos _ hm⟩
    simp [b__law_draw_6, b__law_draw_7, b__law_draw_8, b__law_draw_9, m1, m2, m3, m4, m5, m6, m7, m8, m9, p6, hb, hm, hx, hy]
  · refine ⟨y / 64 % m, ?_, Int.emod_nonneg _ (by omega), Int.emod_lt_of_pos _ hm⟩
    simp [b__law_draw_6, b__law_draw_7, b__law_draw_8, b__law_draw_9, m1, m2, m3, m4, m5, m6, m7, m8, m9, p6, hb, hm, hx, hy]
theorem draw_5 {n : Nat} {m T cell : Int} {t t0 : Tau} (h : Tn n t) (hm : 0 < m) (hmm : m < 1073741824) (hT : 0 ≤ T ∧ T < 2 ^ 60) : ∃ r t', eBody (b__law_draw_5 [some .tape, some (.fr (.int m)), none, some (.fr (.int T)), some (.fr (.int cell)), none] (some t)) (some t0) = .ok (.int r) (some t') ∧ 0 ≤ r ∧ r < m ∧ Tn n t' := by
  obtain ⟨r, e, r0, r1⟩ := draw_t (n := n) (t := t) (t0 := t0) (cell := cell) hm hT
  have dn : ∀ x, CDivN x m := fun x => ⟨by omega, by omega⟩
  have pw : CPow 10 18 := by decide
  by_cases h1 : T < t.cells.length
  · by_cases h2 : (1000000000000000000 : Int) ≤ (if cell < 0 then -cell else cell)
    · refine ⟨(if cell < 0 then -cell else cell) % m, { t with left := (if cell < 0 then -cell else cell).fdiv m }, ?_, Int.emod_nonneg _ (by omega), Int.emod_lt_of_pos _ hm, h.a0, h.a1, ?_⟩
      · simp [b__law_draw_5, h1, h2, dn, pw, hm]
      · rw [Int.fdiv_eq_ediv_of_nonneg _ (by omega)]
        exact Int.ediv_nonneg (by omega) (by omega)
    · exact ⟨r, t, by simp [b__law_draw_5, h1, h2, pw, e], r0, r1, h⟩
  · exact ⟨r, t, by simp [b__law_draw_5, h1, e], r0, r1, h⟩
theorem draw_ok {n : Nat} {m : Int} {t : Tau} (h : Tn n t) (hn : n < 2 ^ 59) (hm : 0 < m) (hmm : m < 1073741824) : ∃ r t', d__law_draw [.tape, .fr (.int m)] (some t) = .ok (.int r) (some t') ∧ 0 ≤ r ∧ r < m ∧ Tn (n + 1) t' := by
  obtain ⟨h0, h1, h2⟩ := h
  by_cases hl : 0 < t.left
  · have dn : CDivN t.left m := ⟨by omega, by omega⟩
    refine ⟨t.left % m, { t with left := t.left.fdiv m }, by simp [d__law_draw, b__law_draw, ev_body, startP, List.replicate, hl, hm, dn], Int.emod_nonneg _ (by omega), Int.emod_lt_of_pos _ hm, h0, by show t.at' ≤ _; omega, ?_⟩
    show 0 ≤ t.left.fdiv m
    rw [Int.fdiv_eq_ediv_of_nonneg _ (by omega)]
    exact Int.ediv_nonneg h2 (by omega)
  · have hT : Tn (n + 1) { t with at' := t.at' + 1 } := ⟨by show 0 ≤ t.at' + 1; omega, by show t.at' + 1 ≤ _; omega, h2⟩
    have m1 : CMul 31 t.at' := .inl ⟨by decide, by decide⟩
    cases hc : t.cells.isEmpty with
    | true =>
      obtain ⟨r, t', e, q⟩ := draw_5 (t0 := t) (cell := 7 + 31 * t.at') (T := t.at') hT hm hmm ⟨h0, by omega⟩
      exact ⟨r, t', by simp [d__law_draw, b__law_draw, b__law_draw_1, b__law_draw_2, b__law_draw_3, b__law_draw_4, ev_body, startP, List.replicate, hl, hc, m1, e], q⟩
    | false =>
      have hp : 0 < t.cells.length := by
        cases hh : t.cells with
        | nil => rw [hh] at hc; cases hc
        | cons a b => simp
      obtain ⟨v, hv⟩ := atI_intsD (ns := t.cells) (i := t.at' % t.cells.length) (Int.emod_nonneg _ (by omega)) (Int.emod_lt_of_pos _ (by omega))
      obtain ⟨r, t', e, q⟩ := draw_5 (t0 := t) (cell := v) (T := t.at') hT hm hmm ⟨h0, by omega⟩
      exact ⟨r, t', by simp [d__law_draw, b__law_draw, b__law_draw_1, b__law_draw_2, b__law_draw_3, b__law_draw_4, ev_body, startP, List.replicate, hl, hc, hp, hv, m1, e], q⟩
def AZ : List Nat := (Str.ofString "abcdefghijklmnopqrstuvwxyz").cps.toList
theorem lit_az : Str.ofString "abcdefghijklmnopqrstuvwxyz" = S AZ := by unfold AZ; rw [← S_of]
theorem lit_emp : Str.ofString "" = S [] := by decide +kernel
theorem AZ_len : AZ.length = 26 := by decide +kernel
theorem AZ_cp : Cp AZ := by unfold Cp; decide +kernel
theorem atI_natE {α : Type} {xs : List α} {k : Nat} : atI xs (k : Int) = xs[k]? := by
  unfold atI ixN
  by_cases h : k < xs.length
  · rw [if_pos (by omega), if_pos (by omega)]; simp
  · rw [if_pos (by omega), if_neg (by omega), List.getElem?_eq_none (by omega)]; rfl
theorem az_get {r : Int} (h0 : 0 ≤ r) (h1 : r < 26) : ∃ c, atI AZ r = some c ∧ c < 1114112 := by
  obtain ⟨j, rfl⟩ := Int.eq_ofNat_of_zero_le h0
  have hj : j < AZ.length := by rw [AZ_len]; omega
  exact ⟨AZ[j], by rw [atI_natE]; exact List.getElem?_eq_getElem hj, AZ_cp _ (List.getElem_mem hj)⟩
theorem AZ_nodup : AZ.Nodup := by decide +kernel
theorem az_inj {i j : Int} {c : Nat} (h0 : 0 ≤ i) (h1 : i < 26) (g0 : 0 ≤ j) (g1 : j < 26) (hi : atI AZ i = some c) (hj : atI AZ j = some c) : i = j := by
  obtain ⟨a, rfl⟩ := Int.eq_ofNat_of_zero_le h0
  obtain ⟨b, rfl⟩ := Int.eq_ofNat_of_zero_le g0
  rw [atI_natE] at hi hj
  have ha : a < AZ.length := by rw [AZ_len]; omega
  have := (List.getElem?_inj ha AZ_nodup).mp (hi.trans hj.symm)
  omega
theorem steps6 {r : Int} (h0 : 0 ≤ r) (h1 : r < 6) : ∃ v : Int, atI [DD.int 1, .int 3, .int 5, .int 7, .int 9, .int 11] r = some (.int v) ∧ 0 < v ∧ v ≤ 11 ∧ (v = 1 ∨ v = 3 ∨ v = 5 ∨ v = 7 ∨ v = 9 ∨ v = 11) := by
  obtain ⟨k, rfl⟩ := Int.eq_ofNat_of_zero_le h0
  have : k = 0 ∨ k = 1 ∨ k = 2 ∨ k = 3 ∨ k = 4 ∨ k = 5 := by omega
  rcases this with rfl | rfl | rfl | rfl | rfl | rfl
  · exact ⟨1, rfl, by decide, by decide, by decide⟩
  · exact ⟨3, rfl, by decide, by decide, by decide⟩
  · exact ⟨5, rfl, by decide, by decide, by decide⟩
  · exact ⟨7, rfl, by decide, by decide, by decide⟩
  · exact ⟨9, rfl, by decide, by decide, by decide⟩
  · exact ⟨11, rfl, by decide, by decide, by decide⟩
theorem names_ok {n M : Nat} {t : Tau} (h : Tn n t) (hn : n < 2 ^ 40) (hM : M ≤ 26) : ∃ ps t', d__law_names [.tape, .fr (.int (M : Int))] (some t) = .ok (.lst (sL ps)) (some t') ∧ ps.length = M ∧ (∀ p ∈ ps, p.length ≤ 9) ∧ Cps ps ∧ Tn (n + 100) t' ∧ ps.Nodup := by
  obtain ⟨r1, t1, e1, a1, b1, T1⟩ := draw_ok h (by omega) (m := 8) (by decide) (by decide)
  have sl := AZ_len
  obtain ⟨ys, τ5, e5, ly, py, t5, rfl, T5⟩ := lcL_draw (t := .nm 5) (a := dOp gIxS (dV 2) (dCallN 2 d__law_draw [] (dpCons (dpT 0) (dpCons (dpE (dC (.int 26))) dpNil)))) (ρ := [some .tape, some (.fr (.int (M : Int))), some (.fr (.str (S AZ))), some (.fr (.int (1 + r1))), none, none, none, none, none, none, none])
    (fun y => ∃ c, y = .str (S [c]) ∧ c < 1114112) (fun k τ => ∃ t, τ = some t ∧ Tn (n + 5 + 5 * k) t) (rangeD 0 (1 + r1).toNat) 0 (some t1) ⟨t1, rfl, T1.mono (by omega)⟩ (by
      rintro j d τ hj hd ⟨t, rfl, T⟩
      rw [rangeD_len] at hj
      refine ⟨_, tgF_nm, ?_⟩
      obtain ⟨r, t', e, a, b, T'⟩ := draw_ok T (by omega) (m := 26) (by decide) (by decide)
      obtain ⟨c, ec, hc⟩ := az_get a b
      exact ⟨.str (S [c]), some t', by simp (disch := first | omega | (simp <;> omega) | fail) [if_pos, e, sl, ec, S_one], ⟨c, rfl, hc⟩, t', rfl, T'.mono (by omega)⟩)
  obtain ⟨cs, rfl, hcs⟩ := all_signs py
  rw [List.length_map, rangeD_len] at ly
  rw [rangeD_len, Nat.zero_add] at T5
  have jn := join_signs (cs := cs) (by omega)
  have rg : rgOk 0 (1 + r1) := by unfold rgOk; omega
  obtain ⟨r6, t6, e6, a6, b6, T6⟩ := draw_ok T5 (by omega) (m := 1 + r1) (by omega) (by omega)
  obtain ⟨r7, t7, e7, a7, b7, T7⟩ := draw_ok T6 (by omega) (m := 26) (by decide) (by decide)
  obtain ⟨r8, t8, e8, a8, b8, T8⟩ := draw_ok T7 (by omega) (m := 6) (by decide) (by decide)
  obtain ⟨v, ev, v1, v2, v3⟩ := steps6 a8 b8
  obtain ⟨r9, t9, e9, a9, b9, T9⟩ := draw_ok T8 (by omega) (m := 3) (by decide) (by decide)
  have cm : ∀ k : Int, CMul v k := fun k => .inl ⟨by omega, by omega⟩
  have cm9 : ∀ k : Int, CMul r9 k := fun k => .inl ⟨by omega, by omega⟩
  have rg6 : rgOk 0 (M : Int) := by unfold rgOk; omega
  have rd : rangeD 0 M = (List.range M).map fun (i : Nat) => DD.int (0 + (i : Int)) := by rw [rangeD_map, List.map_map]; rfl
  have rln : (rangeD 0 M).length = M := rangeD_len 0 M
  have sg : ∀ i : Nat, ∃ c, atI AZ ((r7 + v * (i : Int)) % 26) = some c ∧ c < 1114112 := fun i => az_get (Int.emod_nonneg _ (by decide)) (Int.emod_lt_of_pos _ (by decide))
  obtain ⟨f, hf⟩ : ∃ f : Nat → Nat, ∀ i : Nat, atI AZ ((r7 + v * (i : Int)) % 26) = some (f i) ∧ f i < 1114112 := ⟨fun i => (sg i).choose, fun i => (sg i).choose_spec⟩
  obtain ⟨k6, rfl⟩ := Int.eq_ofNat_of_zero_le a6
  have hk6 : k6 < cs.length := by omega
  let E : Nat → List Nat := fun i => (cs.drop (k6 + 1)).take (if r9 * ((i : Int) % 4) < 1 + r1 - (k6 : Int) - 1 then 1 + r1 - (k6 : Int) - 1 - r9 * ((i : Int) % 4) else 0 : Int).toNat
  have lc1 : ∀ o8 o9 o10, lcL (.nm 5) dYes (dSl gSlS (dSl gSlS (dV 4) (dPart (dOp gAdd (dV 6) (dC (.int 1)))) dNoP) dNoP (dPart (dCall (c2 gMax2) (dCons (dC (.int 0)) (dCons (dOp Np.gSub (dOp Np.gSub (dOp Np.gSub (dV 3) (dV 6)) (dC (.int 1))) (dOp gMul (dV 9) (dOp gMod (dV 5) (dC (.int 4))))) dNil))))) [some .tape, some (.fr (.int (M : Int))), some (.fr (.str (S AZ))), some (.fr (.int (1 + r1))), some (.fr (.str (S cs))), none, some (.fr (.int (k6 : Int))), o8, o9, some (.fr (.int r9)), o10] (rangeD 0 M) (some t9)
      = .ok (sL ((List.range M).map E)) (some t9) := fun o8 o9 o10 => by
    rw [rd]
    unfold sL
    rw [List.map_map]
    refine lcL_mapOf fun i hi => ⟨_, tgF_nm, ?_⟩
    have c2 : cutL cs (some ((k6 : Int) + 1)) none = cs.drop (k6 + 1) := by rw [cutL_from (by omega)]; congr 1
    have c3 : cutL (cs.drop (k6 + 1)) none (some (if r9 * ((i : Int) % 4) < 1 + r1 - (k6 : Int) - 1 then 1 + r1 - (k6 : Int) - 1 - r9 * ((i : Int) % 4) else 0)) = E i := cutL_to (by split <;> omega)
    have ln : (cs.drop (k6 + 1)).length ≤ 16777216 := by rw [List.length_drop]; omega
    have ln2 : cs.length ≤ 16777216 := by omega
    show _ = R.ok (DD.str (S (E i))) _
    generalize E i = Ei at *
    generalize cs.drop (k6 + 1) = CD at *
    simp (disch := first | omega | (simp <;> omega) | fail) [if_pos, cm9, c2, c3]
  have lc2 : ∀ o9, lcL (.nm 5) dYes (dOp gCatS (dOp gCatS (dSl gSlS (dV 4) dNoP (dPart (dV 6))) (dOp gIxS (dV 2) (dOp gMod (dOp gAdd (dV 7) (dOp gMul (dV 8) (dV 5))) (dC (.int 26))))) (dOp gIxL (dV 10) (dV 5))) [some .tape, some (.fr (.int (M : Int))), some (.fr (.str (S AZ))), some (.fr (.int (1 + r1))), some (.fr (.str (S cs))), none, some (.fr (.int (k6 : Int))), some (.fr (.int r7)), some (.fr (.int v)), o9, some (.fr (.lst (sL ((List.range M).map E))))] (rangeD 0 M) (some t9)
      = .ok (sL ((List.range M).map fun (i : Nat) => cs.take k6 ++ [f i] ++ E i)) (some t9) := fun o9 => by
    rw [rd]
    conv => rhs; unfold sL; rw [List.map_map]
    refine lcL_mapOf fun i hi => ⟨_, tgF_nm, ?_⟩
    have c1 : cutL cs none (some (k6 : Int)) = cs.take k6 := by rw [cutL_to (by omega)]; rfl
    have hi' := List.mem_range.mp hi
    have gx : atI (sL ((List.range M).map E)) (i : Int) = some (.str (S (E i))) := by
      rw [atI_natE]
      unfold sL
      rw [List.getElem?_map, List.getElem?_map, List.getElem?_range hi']
      rfl
    have hfi := (hf i).1
    have le : (E i).length ≤ cs.length := by show (List.take _ _).length ≤ _; rw [List.length_take, List.length_drop]; omega
    have lt : (cs.take k6).length ≤ cs.length := by rw [List.length_take]; omega
    have ln2 : cs.length ≤ 16777216 := by omega
    have lb : cs.length ≤ 8 := by omega
    show _ = R.ok (DD.str (S (cs.take k6 ++ [f i] ++ E i))) _
    generalize sL ((List.range M).map E) = EL at *
    generalize E i = Ei at *
    generalize cs.take k6 = CT at *
    simp (disch := first | omega | (simp <;> omega) | fail) [if_pos, cm, hfi, S_one, sl, c1, gx]
  have sl6 : (sL ((List.range M).map E)).length = M := by rw [sL_len]; simp
  refine ⟨(List.range M).map fun (i : Nat) => cs.take k6 ++ [f i] ++ E i, t9, ?_, by simp, ?_, ?_, T9.mono (by omega), ?_⟩
  · have lc1' := lc1
    generalize sL ((List.range M).map fun (i : Nat) => cs.take k6 ++ [f i] ++ E i) = NL at *
    generalize sL ((List.range M).map E) = EL at *
    simp (disch := first | omega | (simp <;> omega) | fail) [if_pos, d__law_names, b__law_names, b__law_names_1, b__law_names_2, b__law_names_3, b__law_names_4, b__law_names_5, b__law_names_6, ev_body, startP, List.replicate, lit_az, lit_emp, e1, rg, e5, jn, e6, e7, e8, ev, e9, rg6, rln, sl6, lc1', lc2]
  · intro p hp
    obtain ⟨i, _, rfl⟩ := List.mem_map.mp hp
    have le : (E i).length ≤ cs.length - (k6 + 1) := by show (List.take _ _).length ≤ _; rw [List.length_take, List.length_drop]; omega
    simp only [List.length_append, List.length_take, List.length_cons, List.length_nil]
    omega
  · intro p hp
    obtain ⟨i, _, rfl⟩ := List.mem_map.mp hp
    exact ((Cp.take hcs _).app (Cp.cons (hf i).2 Cp.nil)).app (Cp.take (Cp.drop hcs _) _)
  · have inj : ∀ i j : Nat, i < M → j < M → f i = f j → i = j := by
      intro i j hi hj e
      have h1 := (hf i).1
      have h2 := (hf j).1
      rw [← e] at h2
      have := az_inj (Int.emod_nonneg _ (by decide)) (Int.emod_lt_of_pos _ (by decide)) (Int.emod_nonneg _ (by decide)) (Int.emod_lt_of_pos _ (by decide)) h1 h2
      rcases v3 with rfl | rfl | rfl | rfl | rfl | rfl <;> omega
    rw [List.Nodup, List.pairwise_map]
    have : (List.range M).Pairwise fun a b => a < b := List.pairwise_lt_range
    refine this.imp_of_mem fun {a b} ha hb hab e => ?_
    rw [List.append_assoc, List.append_assoc] at e
    have e2 := List.append_cancel_left e
    simp only [List.cons_append, List.nil_append, List.cons.injEq] at e2
    have := inj _ _ (List.mem_range.mp ha) (List.mem_range.mp hb) e2.1
    omega
abbrev Sl := PySem.Str × Int
def slK (p : Sl) : List Key := [.inr p.1, .inl p.2]
def leSl (p q : Sl) : Bool := PySem.W.dataLe false encT (slK p) (slK q)
theorem leSl_def (p q : Sl) : leSl p q = !PyProof.Rows.lexLt PyProof.Rows.itemOrd [.inl 1, .inr q.1.cps.toList, .inl 1, .inl q.2, .inl 0] [.inl 1, .inr p.1.cps.toList, .inl 1, .inl p.2, .inl 0] := rfl
theorem leSl_eq {s : PySem.Str} {i j : Int} (h : i ≤ j) : leSl (s, i) (s, j) = true := by
  rw [leSl_def, Bool.not_eq_true']
  have e := PySem.W.lex_pre [.inl 1, .inr s.cps.toList, .inl 1] [.inl j, .inl 0] [.inl i, .inl 0]
  refine Eq.trans e ?_
  by_cases z : i = j
  · subst z
    exact PySem.W.lex_pre [.inl i, .inl 0] [] []
  · rw [PyProof.Rows.lex_diff (O := PyProof.Rows.itemOrd) (fun y => z (by cases y; rfl))]
    show decide (j < i) = false
    simpa using h
theorem leSl_ne {s t : PySem.Str} {i j : Int} (h : leS s t = true) (ne : s ≠ t) : leSl (s, i) (t, j) = true := by
  rw [leSl_def, Bool.not_eq_true']
  have e := PySem.W.lex_pre [.inl 1] [.inr t.cps.toList, .inl 1, .inl j, .inl 0] [.inr s.cps.toList, .inl 1, .inl i, .inl 0]
  refine Eq.trans e ?_
  have nc : t.cps.toList ≠ s.cps.toList := fun z => ne (PySem.W.str_of_cps z.symm)
  rw [PyProof.Rows.lex_diff (O := PyProof.Rows.itemOrd) (fun y => nc (Sum.inr.inj y))]
  show decide (t.cps.toList < s.cps.toList) = false
  unfold leS at h
  have h := of_decide_eq_true h
  exact decide_eq_false (List.not_lt.mpr h)
theorem leSl_anti {p q : Sl} (h1 : leSl p q = true) (h2 : leSl q p = true) : p = q := by
  obtain ⟨s, i⟩ := p
  obtain ⟨t, j⟩ := q
  by_cases e : s = t
  · subst e
    rw [leSl_def, Bool.not_eq_true'] at h1 h2
    have e1 := PySem.W.lex_pre [.inl 1, .inr s.cps.toList, .inl 1] [.inl j, .inl 0] [.inl i, .inl 0]
    have e2 := PySem.W.lex_pre [.inl 1, .inr s.cps.toList, .inl 1] [.inl i, .inl 0] [.inl j, .inl 0]
    have h1 := e1.symm.trans h1
    have h2 := e2.symm.trans h2
    by_cases z : i = j
    · rw [z]
    · rw [PyProof.Rows.lex_diff (O := PyProof.Rows.itemOrd) (fun y => z (by cases y; rfl))] at h1
      rw [PyProof.Rows.lex_diff (O := PyProof.Rows.itemOrd) (fun y => z (by cases y; rfl))] at h2
      have h1 : decide (j < i) = false := h1
      have h2 : decide (i < j) = false := h2
      have h1 := of_decide_eq_false h1
      have h2 := of_decide_eq_false h2
      omega
  · have nc : t.cps.toList ≠ s.cps.toList := fun z => e (PySem.W.str_of_cps z.symm)
    rw [leSl_def, Bool.not_eq_true'] at h1 h2
    have e1 := PySem.W.lex_pre [.inl 1] [.inr t.cps.toList, .inl 1, .inl j, .inl 0] [.inr s.cps.toList, .inl 1, .inl i, .inl 0]
    have e2 := PySem.W.lex_pre [.inl 1] [.inr s.cps.toList, .inl 1, .inl i, .inl 0] [.inr t.cps.toList, .inl 1, .inl j, .inl 0]
    have h1 := e1.symm.trans h1
    have h2 := e2.symm.trans h2
    rw [PyProof.Rows.lex_diff (O := PyProof.Rows.itemOrd) (fun y => nc (Sum.inr.inj y))] at h1
    rw [PyProof.Rows.lex_diff (O := PyProof.Rows.itemOrd) (fun y => nc (Sum.inr.inj y).symm)] at h2
    have h1 : decide (t.cps.toList < s.cps.toList) = false := h1
    have h2 : decide (s.cps.toList < t.cps.toList) = false := h2
    have h1 := List.not_lt.mp (of_decide_eq_false h1)
    have h2 := List.not_lt.mp (of_decide_eq_false h2)
    exact (nc (List.le_antisymm h2 h1)).elim
theorem srtSl {ps qs : List Sl} (hp : qs.Perm ps) (hs : qs.Pairwise fun a b => leSl a b = true) : srtT (ps.map slK) = qs.map slK := by
  have tl := PySem.W.sortLe_total (PyProof.Rows.listOrd PyProof.Rows.itemOrd) false fun k : List Key => PySem.W.keyToks (encT k)
  have pw : (srtT (ps.map slK)).Pairwise fun a b => PySem.W.dataLe false encT a b = true := List.pairwise_mergeSort tl.trans (fun a b => by rw [Bool.or_eq_true]; exact tl.total a b) _
  have pq : (qs.map slK).Pairwise fun a b => PySem.W.dataLe false encT a b = true := List.pairwise_map.mpr hs
  refine List.Perm.eq_of_pairwise (fun a b ha hb h1 h2 => ?_) pw pq ((srtT_perm _).trans (hp.symm.map slK))
  have ha := (srtT_perm _).mem_iff.mp ha
  obtain ⟨p, _, rfl⟩ := List.mem_map.mp ha
  obtain ⟨q, _, rfl⟩ := List.mem_map.mp hb
  rw [leSl_anti h1 h2]
def slD (p : Sl) : DD := .tup [.str p.1, .int p.2]
theorem sl_sorted {ps qs : List Sl} (hp : qs.Perm ps) (hs : qs.Pairwise fun a b => leSl a b = true) {τ : TS'} : eSPLF (.ok [.lst (ps.map slD)] τ) = .ok (.lst (qs.map slD)) τ := by
  have h := eSPLF_at (xs := ps.map slD) (τ := τ) (pairsK_map ps)
  rw [h]
  have e := srtSl hp hs
  rw [show (ps.map fun p : Sl => ([.inr p.1, .inl p.2] : List Key)) = ps.map slK from rfl, e, List.map_map]
  rfl
abbrev Shp := PySem.Str × List Int
structure Ned where
  n : PySem.Str
  f : Int
  d : Int
  c : Int
  b : List PySem.Str
def shD (p : Shp) : DD := .tup [.str p.1, .tup (p.2.map DD.int)]
def neD (n : Ned) : DD := .tup [.str n.n, .int n.f, .int n.d, .int n.c, .tup (n.b.map DD.str)]
def shL (P : List Shp) : DD := .lst (P.map shD)
def neL (T : List Ned) : DD := .lst (T.map neD)
def rt (r : List Int) (h : Nat) : Int := r[h]?.getD 0
def rateP (P : List Shp) (s : PySem.Str) (h : Nat) : Int := match al P s with
  | some r => rt r h
  | none => 0
def opN (s : PySem.Str) (h : Nat) (n : Ned) : Bool := decide (n.f ≤ (h : Int) ∧ (h : Int) < n.d) && !decide (s ∈ n.b)
theorem rt_get {r : List Int} {h : Nat} (hl : h < r.length) : r[h]? = some (rt r h) := by
  unfold rt
  rw [List.getElem?_eq_getElem hl]
  rfl
theorem rt_out {r : List Int} {h : Nat} (hl : ¬ h < r.length) : rt r h = 0 := by
  unfold rt
  rw [List.getElem?_eq_none (by omega)]
  rfl
structure ShOk (P : List Shp) : Prop where
  l : P.length ≤ 6
  n : (P.map (·.1)).Nodup
  t : ∀ p ∈ P, Tx 9 p.1
  r : ∀ p ∈ P, p.2.length ≤ 12
  v : ∀ p ∈ P, ∀ x ∈ p.2, 0 ≤ x ∧ x ≤ 1000000
structure NeOk (T : List Ned) : Prop where
  l : T.length ≤ 24
  n : (T.map (·.n)).Nodup
  t : ∀ x ∈ T, Tx 9 x.n
  f : ∀ x ∈ T, (0 ≤ x.f ∧ x.f ≤ 12) ∧ (0 ≤ x.d ∧ x.d ≤ 40) ∧ 0 ≤ x.c ∧ x.c ≤ 10000000
  b : ∀ x ∈ T, x.b.length ≤ 10 ∧ ∀ s ∈ x.b, Tx 9 s
theorem atI_int {r : List Int} {h : Nat} (hl : h < r.length) : atI (r.map DD.int) (h : Int) = some (.int (rt r h)) := by
  rw [atI_natE, List.getElem?_map, rt_get hl]
  rfl
theorem rate_loop {P0 : DD} {S0 : DD} {s : PySem.Str} {h : Nat} {τ : TS'} : ∀ {P : List Shp} (o4 o5 : Option PV), (∀ p ∈ P, p.2.length ≤ 12) → (P.map (·.1)).Nodup →
    (∃ r, al P s = some r ∧ h < r.length ∧ forL (.tp [.nm 4, .nm 5]) b_rate_at_L1 (P.map shD) [some (.fr P0), some (.fr S0), some (.fr (.str s)), some (.fr (.int (h : Int))), o4, o5] τ = .ok (.rt (.int (rt r h))) τ) ∨
    (rateP P s h = 0 ∧ ∃ q4 q5, forL (.tp [.nm 4, .nm 5]) b_rate_at_L1 (P.map shD) [some (.fr P0), some (.fr S0), some (.fr (.str s)), some (.fr (.int (h : Int))), o4, o5] τ = .ok (.nx [some (.fr P0), some (.fr S0), some (.fr (.str s)), some (.fr (.int (h : Int))), q4, q5]) τ)
  | [], o4, o5, _, _ => .inr ⟨rfl, o4, o5, rfl⟩
  | p :: P, o4, o5, hr, hn => by
    obtain ⟨nm, r⟩ := p
    rw [List.map_cons] at hn
    obtain ⟨n1, n2⟩ := List.nodup_cons.mp hn
    have hl := hr _ List.mem_cons_self
    have rc := rate_loop (P0 := P0) (S0 := S0) (s := s) (h := h) (τ := τ) (P := P) (some (.fr (.str nm))) (some (.fr (.tup (r.map DD.int)))) (fun p hp => hr p (List.mem_cons_of_mem _ hp)) n2
    have tg : tgF (.tp [.nm 4, .nm 5]) (shD (nm, r)) [some (.fr P0), some (.fr S0), some (.fr (.str s)), some (.fr (.int (h : Int))), o4, o5] = some [some (.fr P0), some (.fr S0), some (.fr (.str s)), some (.fr (.int (h : Int))), some (.fr (.str nm)), some (.fr (.tup (r.map DD.int)))] := tgF_two
    have rl : (r.map DD.int).length = r.length := List.length_map _
    dsimp only at hl
    rw [List.map_cons, forL_cons tg]
    by_cases e : nm = s
    · subst e
      by_cases c : h < r.length
      · left
        refine ⟨r, by rw [al_cons, if_pos rfl], c, ?_⟩
        have a := atI_int c
        generalize r.map DD.int = RR at *
        simp (disch := first | omega | (simp <;> omega) | fail) [if_pos, b_rate_at_L1, rl, c, a]
      · right
        have no : al P nm = none := al_none.mpr n1
        have step : b_rate_at_L1 [some (.fr P0), some (.fr S0), some (.fr (.str nm)), some (.fr (.int (h : Int))), some (.fr (.str nm)), some (.fr (.tup (r.map DD.int)))] τ = .ok (.nx [some (.fr P0), some (.fr S0), some (.fr (.str nm)), some (.fr (.int (h : Int))), some (.fr (.str nm)), some (.fr (.tup (r.map DD.int)))]) τ := by
          generalize r.map DD.int = RR at *
          simp (disch := first | omega | (simp <;> omega) | fail) [if_pos, b_rate_at_L1, rl, c]
        rw [step]
        rcases rc with ⟨r', e', _⟩ | ⟨_, q4, q5, e'⟩
        · rw [no] at e'
          cases e'
        · refine ⟨?_, q4, q5, e'⟩
          unfold rateP
          rw [al_cons, if_pos rfl]
          exact rt_out c
    · have e1 : s ≠ nm := fun z => e z.symm
      have step : b_rate_at_L1 [some (.fr P0), some (.fr S0), some (.fr (.str s)), some (.fr (.int (h : Int))), some (.fr (.str nm)), some (.fr (.tup (r.map DD.int)))] τ = .ok (.nx [some (.fr P0), some (.fr S0), some (.fr (.str s)), some (.fr (.int (h : Int))), some (.fr (.str nm)), some (.fr (.tup (r.map DD.int)))]) τ := by
        generalize r.map DD.int = RR at *
        simp (disch := first | omega | (simp <;> omega) | fail) [if_pos, b_rate_at_L1, e, e1]
      rw [step]
      have ea : al ((nm, r) :: P) s = al P s := by rw [al_cons, if_neg e]
      rcases rc with ⟨r', e', c, f⟩ | ⟨z, q4, q5, e'⟩
      · exact .inl ⟨r', ea.trans e', c, f⟩
      · refine .inr ⟨?_, q4, q5, e'⟩
        unfold rateP
        rw [ea]
        exact z
theorem rate_ok {P : List Shp} (hP : ShOk P) {s : PySem.Str} {h : Nat} {τ : TS'} : d_rate_at [.fr (shL P), .fr (.tup [.str s, .int (h : Int)])] τ = .ok (.int (rateP P s h)) τ := by
  have lp : (P.map shD).length ≤ 6 := by rw [List.length_map]; exact hP.l
  rcases rate_loop (P0 := shL P) (S0 := .tup [.str s, .int (h : Int)]) (s := s) (h := h) (τ := τ) (P := P) none none hP.r hP.n with ⟨r, e, c, f⟩ | ⟨z, q4, q5, f⟩
  · have e2 : rateP P s h = rt r h := by unfold rateP; rw [e]
    rw [e2]
    unfold shL at f ⊢
    generalize P.map shD = PP at *
    simp (disch := first | omega | (simp <;> omega) | fail) [if_pos, d_rate_at, b_rate_at, b_rate_at_1, ev_body, startP, List.replicate, f]
  · rw [z]
    unfold shL at f ⊢
    generalize P.map shD = PP at *
    simp (disch := first | omega | (simp <;> omega) | fail) [if_pos, d_rate_at, b_rate_at, b_rate_at_1, b_rate_at_2, ev_body, startP, List.replicate, f]
theorem gInF_tux {neg : Bool} {i : PySem.Str} {ns : List PySem.Str} : gInF neg (.str i) (.tup (ns.map DD.str)) = some (.bl (if neg = true then !decide (i ∈ ns) else decide (i ∈ ns))) := by
  have g0 := gInF_strs (i := i) (ns := ns)
  have e0 : flat? (.str i) = some (V.str i) := rfl
  unfold gInF at g0 ⊢
  have e1 : (items? (.tup (ns.map DD.str))).bind flats? = flats? (ns.map DD.str) := rfl
  have e2 : (items? (.lst (ns.map DD.str))).bind flats? = flats? (ns.map DD.str) := rfl
  rw [e2] at g0
  rw [e1]
  cases h : flats? (ns.map DD.str) with
  | none => rw [h, e0] at g0; cases g0
  | some xs =>
    rw [h, e0] at g0
    have g0 : some (DD.bl (inV (V.str i) xs)) = some (.bl (decide (i ∈ ns))) := g0
    have g1 : inV (V.str i) xs = decide (i ∈ ns) := by
      have := Option.some.inj g0
      injection this
    rw [e0]
    show some (DD.bl (if neg = true then !inV (V.str i) xs else inV (V.str i) xs)) = _
    rw [g1]
theorem open_ok {n : Ned} (hb : n.b.length ≤ 10) {s : PySem.Str} {h : Nat} {τ : TS'} : d_is_open [.fr (neD n), .fr (.tup [.str s, .int (h : Int)])] τ = .ok (.bl (opN s h n)) τ := by
  have g := gInF_tux (neg := true) (i := s) (ns := n.b)
  rw [if_pos rfl] at g
  have a0 : atI [DD.str s, DD.int (h : Int)] 0 = some (.str s) := rfl
  have a1 : atI [DD.str s, DD.int (h : Int)] 1 = some (.int (h : Int)) := rfl
  unfold neD opN
  generalize n.b.map DD.str = BB at *
  by_cases c1 : n.f ≤ (h : Int)
  · by_cases c2 : (h : Int) < n.d
    · simp (disch := first | omega | (simp <;> omega) | fail) [if_pos, d_is_open, b_is_open, b_is_open_1, ev_body, startP, List.replicate, a0, a1, c1, c2, g]
    · simp (disch := first | omega | (simp <;> omega) | fail) [if_pos, d_is_open, b_is_open, b_is_open_1, ev_body, startP, List.replicate, a0, a1, c1, c2, g]
  · simp (disch := first | omega | (simp <;> omega) | fail) [if_pos, d_is_open, b_is_open, b_is_open_1, ev_body, startP, List.replicate, a0, a1, c1, g]
theorem rbA_ex {k : Nat} : ∀ {ds : List DD}, (∀ d ∈ ds, ∃ n, Rb n k d) → ∃ n, RbA n k ds
  | [], _ => ⟨_, RbA.all (n := 0) (ds := []) (fun d hd => by cases hd)⟩
  | d :: ds, h => by
    obtain ⟨n, hn⟩ := h d List.mem_cons_self
    obtain ⟨m, hm⟩ := rbA_ex (ds := ds) fun x hx => h x (List.mem_cons_of_mem _ hx)
    exact ⟨_, RbA.cons hn hm⟩
theorem rb_i {i : Int} (h : i.natAbs < 10 ^ 50) (k : Nat) : ∃ n, Rb n k (.int i) := ⟨0, (Rb.big h).mono (Nat.le_refl _) (Nat.zero_le _)⟩
theorem rb_s {s : PySem.Str} (h : Tx 9 s) (k : Nat) : ∃ n, Rb n k (.str s) := ⟨9, (Rb.str h).mono (Nat.le_refl _) (Nat.zero_le _)⟩
theorem rb_tup {k : Nat} {ds : List DD} (h : ∀ d ∈ ds, ∃ n, Rb n k d) : ∃ n, Rb n (k + 1) (.tup ds) := by
  obtain ⟨n, hn⟩ := rbA_ex h
  exact ⟨n, Rb.tup hn⟩
theorem rb_lst {k : Nat} {ds : List DD} (h : ∀ d ∈ ds, ∃ n, Rb n k d) : ∃ n, Rb n (k + 1) (.lst ds) := by
  obtain ⟨n, hn⟩ := rbA_ex h
  exact ⟨n, Rb.lst hn⟩
theorem plains_map {α : Type} {f : α → DD} : ∀ {xs : List α}, (∀ x ∈ xs, plainD (f x) = true) → plainDs (xs.map f) = true
  | [], _ => by rw [List.map_nil, plainDs]
  | x :: xs, h => by rw [List.map_cons, plainDs, h x (by simp), plains_map fun y hy => h y (by simp [hy])]; rfl
structure NB (x : Ned) : Prop where
  t : Tx 9 x.n
  f : (0 ≤ x.f ∧ x.f ≤ 12) ∧ (0 ≤ x.d ∧ x.d ≤ 40) ∧ 0 ≤ x.c ∧ x.c ≤ 10000000
  b : x.b.length ≤ 10 ∧ ∀ s ∈ x.b, Tx 9 s
theorem NeOk.nb {T : List Ned} (h : NeOk T) {x : Ned} (hx : x ∈ T) : NB x := ⟨h.t x hx, h.f x hx, h.b x hx⟩
theorem neD_rb {x : Ned} (h : NB x) : ∃ n, Rb n 2 (neD x) := by
  unfold neD
  refine rb_tup fun d hd => ?_
  simp only [List.mem_cons, List.not_mem_nil, or_false] at hd
  have f := h.f
  rcases hd with rfl | rfl | rfl | rfl | rfl
  · exact rb_s h.t _
  · exact rb_i (by omega) _
  · exact rb_i (by omega) _
  · exact rb_i (by omega) _
  · refine rb_tup fun d hd => ?_
    obtain ⟨s, hs, rfl⟩ := List.mem_map.mp hd
    exact rb_s (h.b.2 s hs) _
theorem neD_plain (x : Ned) : plainD (neD x) = true := by
  unfold neD
  have p := plains_map (f := DD.str) (xs := x.b) fun s _ => by rw [plainD]
  simp [plainD, plainDs, p]
theorem neL_rb {T : List Ned} (h : ∀ x ∈ T, NB x) : ∃ n, Rb n 3 (neL T) := rb_lst fun d hd => by
  obtain ⟨x, hx, rfl⟩ := List.mem_map.mp hd
  exact neD_rb (h x hx)
theorem ne_needs {T : List Ned} (h : ∀ x ∈ T, NB x) : gNeD (.lst (T.map neD)) (.lst []) = some (.bl (!decide (T = []))) := by
  cases T with
  | nil => exact (gNeD_ints (ms := []) (ns := [])).trans rfl
  | cons r rs =>
    have hn : r :: rs ≠ [] := by simp
    obtain ⟨n, rb⟩ := neL_rb h
    obtain ⟨m, q⟩ := neL_rb (T := []) (by simp)
    unfold neL at rb q
    rw [List.map_nil] at q
    haveI : Decidable (DD.lst ((r :: rs).map neD) = DD.lst []) := .isFalse fun z => hn (by simpa using DD.lst.inj z)
    have pl : plainD (.lst ((r :: rs).map neD)) = true := by rw [plainD]; exact plains_map fun x _ => neD_plain x
    rw [gNeD_eq rb q (by decide) (by decide) pl rfl, decide_eq_false (fun z => hn (by simpa using DD.lst.inj z)), decide_eq_false hn]
def findN (T : List Ned) (s : PySem.Str) : Option Ned := (T.filter fun n => decide (n.n = s)).head?
theorem findN_some {T : List Ned} {s : PySem.Str} {n : Ned} (h : findN T s = some n) : n ∈ T ∧ n.n = s := by
  unfold findN at h
  have := List.mem_of_head? h
  obtain ⟨a, b⟩ := List.mem_filter.mp this
  exact ⟨a, of_decide_eq_true b⟩
theorem findN_ex {T : List Ned} {s : PySem.Str} (h : s ∈ T.map (·.n)) : (findN T s).isSome = true := by
  obtain ⟨n, hn, e⟩ := List.mem_map.mp h
  unfold findN
  cases z : T.filter fun n => decide (n.n = s) with
  | nil => exact (List.filter_eq_nil_iff.mp z n hn (decide_eq_true e)).elim
  | cons => rfl
theorem findN_no {T : List Ned} {s : PySem.Str} (h : s ∉ T.map (·.n)) : findN T s = none := by
  unfold findN
  rw [List.filter_eq_nil_iff.mpr]
  · rfl
  · intro n hn z
    exact h (List.mem_map.mpr ⟨n, hn, of_decide_eq_true z⟩)
def optD : Option Ned → DD
  | some n => neD n
  | none => .non
theorem need_ok {T : List Ned} (hT : NeOk T) {s : PySem.Str} {τ : TS'} : d_need_of [.fr (neL T), .fr (.str s)] τ = .ok (optD (findN T s)) τ := by
  have lc : lcL (.nm 3) (dTest (dOp (gEq false) (dOp gIxT (dV 3) (dC (.int 0))) (dV 1))) (dV 3) [some (.fr (neL T)), some (.fr (.str s)), none, none] (T.map neD) τ = .ok ((T.filter fun n => decide (n.n = s)).map neD) τ :=
    lcL_fmapOf fun n hn => ⟨_, tgF_nm, by
      have a0 : atI [DD.str n.n, .int n.f, .int n.d, .int n.c, .tup (n.b.map DD.str)] 0 = some (.str n.n) := rfl
      unfold neD
      generalize n.b.map DD.str = BB at *
      simp (disch := first | omega | (simp <;> omega) | fail) [if_pos, a0], fun _ => by simp (disch := first | omega | (simp <;> omega) | fail) [if_pos, ]⟩
  have nb : ∀ x ∈ T.filter fun n => decide (n.n = s), NB x := fun x hx => hT.nb (List.mem_filter.mp hx).1
  have nn := ne_needs nb
  have ll : (T.filter fun n => decide (n.n = s)).length ≤ 24 := Nat.le_trans (List.length_filter_le _ _) hT.l
  have lT : (T.map neD).length ≤ 24 := by rw [List.length_map]; exact hT.l
  unfold findN
  generalize (T.filter fun n => decide (n.n = s)) = F at *
  unfold neL at lc ⊢
  generalize T.map neD = TT at *
  cases F with
  | nil =>
    simp only [List.map_nil, decide_true, Bool.not_true] at nn lc
    show _ = R.ok DD.non _
    simp (disch := first | omega | (simp <;> omega) | fail) [if_pos, d_need_of, b_need_of, b_need_of_1, ev_body, startP, List.replicate, lc, nn]
  | cons n F =>
    have a0 : atI (neD n :: F.map neD) 0 = some (neD n) := atI_0
    have nn : gNeD (.lst (neD n :: F.map neD)) (.lst []) = some (.bl true) := by
      rw [List.map_cons] at nn
      rw [nn]
      rfl
    rw [List.map_cons] at lc
    have l2 : (F.map neD).length ≤ 24 := by rw [List.length_map]; simp at ll; omega
    show _ = R.ok (neD n) _
    generalize F.map neD = FF at *
    generalize neD n = ND at *
    simp (disch := first | omega | (simp <;> omega) | fail) [if_pos, d_need_of, b_need_of, b_need_of_1, ev_body, startP, List.replicate, lc, nn, a0]
structure TA (t t' : Tau) : Prop where
  c : t'.cells = t.cells
  a : t'.at' = t.at'
  l : t'.left = t.left
theorem TA.refl (t : Tau) : TA t t := ⟨rfl, rfl, rfl⟩
theorem TA.trans {a b c : Tau} (h : TA a b) (k : TA b c) : TA a c := ⟨k.c.trans h.c, k.a.trans h.a, k.l.trans h.l⟩
theorem TA.tn {n : Nat} {t t' : Tau} (h : TA t t') (T : Tn n t) : Tn n t' := ⟨by rw [h.a]; exact T.a0, by rw [h.a]; exact T.a1, by rw [h.l]; exact T.l0⟩
theorem st_put {t : Tau} {p : Nat} {nd nd' : Nd} (h : t.st[p]? = some nd) : (putSt t p nd').st[p]? = some nd' := by
  unfold putSt
  exact List.getElem?_set_self (List.getElem?_eq_some_iff.mp h).1
def pck (T : List Ned) (xs : List (PySem.Str × Ned)) (s : PySem.Str) : List (PySem.Str × Ned) := match findN T s with
  | some n => aput xs s n
  | none => xs
theorem pick_loop {T : List Ned} (hT : NeOk T) {N0 : DD} {q : Nat} {rest : List PySem.Str} : ∀ (ss : List PySem.Str) (xs : List (PySem.Str × Ned)) (t : Tau) (o3 o4 : Option PV), t.st[q]? = some (.dK (sD neD xs)) → xs.length + ss.length < 1000 → (∀ s ∈ ss, (findN T s).isSome = true) →
    ∃ t' q3 q4, forL (.nm 3) b_picked_L1 ((ss ++ rest).map DD.str) [some (.fr (neL T)), some (.fr N0), some (.fr (.ptr q)), o3, o4] (some t) = forL (.nm 3) b_picked_L1 (rest.map DD.str) [some (.fr (neL T)), some (.fr N0), some (.fr (.ptr q)), q3, q4] (some t') ∧ t'.st[q]? = some (.dK (sD neD (ss.foldl (pck T) xs))) ∧ TA t t'
  | [], xs, t, o3, o4, h, _, _ => ⟨t, o3, o4, rfl, h, TA.refl t⟩
  | s :: ss, xs, t, o3, o4, h, hl, hs => by
    obtain ⟨n, hn⟩ := Option.isSome_iff_exists.mp (hs s List.mem_cons_self)
    have nd := need_ok hT (s := s) (τ := some t)
    rw [hn] at nd
    have nd : d_need_of [.fr (neL T), .fr (.str s)] (some t) = .ok (neD n) (some t) := nd
    have pt := put_s (k := s) (v := n) h rfl (by rw [sizeLine_eq]; simp at hl; omega)
    have pk : pck T xs s = aput xs s n := by unfold pck; rw [hn]
    obtain ⟨t', q3, q4, e, h', a⟩ := pick_loop hT (N0 := N0) (q := q) (rest := rest) ss (aput xs s n) (putSt t q (.dK (sD neD (aput xs s n)))) (some (.fr (.str s))) (some (.fr (neD n))) (st_put h) (by have := aput_len xs s n; simp at hl; omega) fun x hx => hs x (List.mem_cons_of_mem _ hx)
    refine ⟨t', q3, q4, ?_, by rw [List.foldl_cons, pk]; exact h', (show TA t (putSt t q (.dK (sD neD (aput xs s n)))) from ⟨rfl, rfl, rfl⟩).trans a⟩
    rw [List.cons_append, List.map_cons, forL_cons tgF_nm]
    have nn : gIsN false (neD n) .non = some (.bl false) := rfl
    have step : b_picked_L1 [some (.fr (neL T)), some (.fr N0), some (.fr (.ptr q)), some (.fr (.str s)), o4] (some t) = .ok (.nx [some (.fr (neL T)), some (.fr N0), some (.fr (.ptr q)), some (.fr (.str s)), some (.fr (neD n))]) (some (putSt t q (.dK (sD neD (aput xs s n))))) := by
      generalize neD n = ND at *
      generalize neL T = NT at *
      simp (disch := first | omega | (simp <;> omega) | fail) [if_pos, b_picked_L1, b_picked_L1_1, b_picked_L1_2, nd, nn, pt]
    show eTurn (b_picked_L1 [some (.fr (neL T)), some (.fr N0), some (.fr (.ptr q)), some (.fr (.str s)), o4] (some t)) (.nm 3) b_picked_L1 ((ss ++ rest).map DD.str) = _
    rw [step]
    exact e
def pckL (T : List Ned) (ss : List PySem.Str) : List (PySem.Str × Ned) := ss.foldl (pck T) []
def pckN (T : List Ned) (ss : List PySem.Str) : List Ned := (pckL T ss).map (·.2)
theorem picked_ok {T : List Ned} (hT : NeOk T) {ss : List PySem.Str} (hl : ss.length ≤ 100) (hs : ∀ s ∈ ss, (findN T s).isSome = true) {t : Tau} : ∃ t', d_picked [.fr (neL T), .fr (.tup (ss.map DD.str))] (some t) = .ok (neL (pckN T ss)) (some t') ∧ TA t t' := by
  obtain ⟨t', q3, q4, e, h, a⟩ := pick_loop hT (N0 := .tup (ss.map DD.str)) (q := t.st.length) (rest := []) ss [] (pushSt t (.dK [])) none none (by show (t.st ++ [Nd.dK []])[t.st.length]? = _; simp [sD, ad]) (by simp; omega) hs
  have lv := eLV_at h
  have ev : (sD neD (ss.foldl (pck T) [])).map (·.2) = (pckN T ss).map neD := by
    unfold sD ad pckN pckL
    rw [List.map_map, List.map_map]
    rfl
  rw [ev] at lv
  rw [List.append_nil, List.map_nil, forL_nil] at e
  refine ⟨t', ?_, (show TA t (pushSt t (.dK [])) from ⟨rfl, rfl, rfl⟩).trans a⟩
  have ls : (ss.map DD.str).length ≤ 100 := by rw [List.length_map]; exact hl
  unfold neL at e ⊢
  generalize (pckN T ss).map neD = PN at *
  generalize T.map neD = NT at *
  generalize ss.map DD.str = SS at *
  simp (disch := first | omega | (simp <;> omega) | fail) [if_pos, d_picked, b_picked, b_picked_1, b_picked_2, ev_body, startP, List.replicate, e, lv]
def unX (s : PySem.Str) : Ex := ⟨"Unknown", [("name", .str s)]⟩
theorem picked_no {T : List Ned} (hT : NeOk T) {l r : List PySem.Str} {s : PySem.Str} (hl : l.length + r.length ≤ 100) (hs : ∀ x ∈ l, (findN T x).isSome = true) (hn : findN T s = none) {t : Tau} : ∃ t', d_picked [.fr (neL T), .fr (.tup ((l ++ s :: r).map DD.str))] (some t) = .ex (unX s) (some t') ∧ TA t t' := by
  obtain ⟨t', q3, q4, e, h, a⟩ := pick_loop hT (N0 := .tup ((l ++ s :: r).map DD.str)) (q := t.st.length) (rest := s :: r) l [] (pushSt t (.dK [])) none none (by show (t.st ++ [Nd.dK []])[t.st.length]? = _; simp [sD, ad]) (by simp; omega) hs
  refine ⟨t', ?_, (show TA t (pushSt t (.dK [])) from ⟨rfl, rfl, rfl⟩).trans a⟩
  have nd := need_ok hT (s := s) (τ := some t')
  rw [hn] at nd
  have nd : d_need_of [.fr (neL T), .fr (.str s)] (some t') = .ok .non (some t') := nd
  have ls : ((l ++ s :: r).map DD.str).length ≤ 101 := by simp; omega
  have e2 : forL (.nm 3) b_picked_L1 ((s :: r).map DD.str) [some (.fr (neL T)), some (.fr (.tup ((l ++ s :: r).map DD.str))), some (.fr (.ptr t.st.length)), q3, q4] (some t') = .ok (.xc (unX s) [some (.fr (neL T)), some (.fr (.tup ((l ++ s :: r).map DD.str))), some (.fr (.ptr t.st.length)), some (.fr (.str s)), some (.fr .non)]) (some t') := by
    rw [List.map_cons, forL_cons tgF_nm]
    unfold unX
    generalize neL T = NT at *
    generalize (l ++ s :: r).map DD.str = SS at *
    simp (disch := first | omega | (simp <;> omega) | fail) [if_pos, b_picked_L1, b_picked_L1_1, nd]
  have e := e.trans e2
  unfold neL at e ⊢
  generalize T.map neD = NT at *
  generalize (l ++ s :: r).map DD.str = SS at *
  simp (disch := first | omega | (simp <;> omega) | fail) [if_pos, d_picked, b_picked, b_picked_1, b_picked_2, ev_body, startP, List.replicate, e]
theorem nodup_of_map {α β : Type} {f : α → β} {l : List α} (h : (l.map f).Nodup) : l.Nodup := (List.pairwise_map.mp h).imp fun n e => n (by rw [e])
theorem name_inj : ∀ {T : List Ned}, (T.map (·.n)).Nodup → ∀ a ∈ T, ∀ b ∈ T, a.n = b.n → a = b
  | [], _, a, h, _, _, _ => nomatch h
  | x :: T, hn, a, ha, b, hb, e => by
    rw [List.map_cons] at hn
    obtain ⟨n1, n2⟩ := List.nodup_cons.mp hn
    rcases List.mem_cons.mp ha with ha' | ha' <;> rcases List.mem_cons.mp hb with hb' | hb'
    · rw [ha', hb']
    · exact (n1 (List.mem_map.mpr ⟨b, hb', by rw [← e, ha']⟩)).elim
    · exact (n1 (List.mem_map.mpr ⟨a, ha', by rw [e, hb']⟩)).elim
    · exact name_inj n2 a ha' b hb' e
theorem aput_mem {κ α : Type} [DecidableEq κ] {xs : List (κ × α)} {k : κ} {v : α} {p : κ × α} (h : p ∈ aput xs k v) : p ∈ xs ∨ p = (k, v) := by
  unfold aput at h
  split at h
  · obtain ⟨q, hq, e⟩ := List.mem_map.mp h
    split at e
    · rename_i z
      exact .inr (by rw [← e, z])
    · exact .inl (by rw [← e]; exact hq)
  · rcases List.mem_append.mp h with h | h
    · exact .inl h
    · exact .inr (List.mem_singleton.mp h)
structure PI (T : List Ned) (ss : List PySem.Str) (xs : List (PySem.Str × Ned)) : Prop where
  n : (xs.map (·.1)).Nodup
  m : ∀ p ∈ xs, p.2 ∈ T ∧ p.2.n = p.1
  k : ∀ s, s ∈ xs.map (·.1) ↔ s ∈ ss
theorem PI.turn {T : List Ned} {ss : List PySem.Str} {xs : List (PySem.Str × Ned)} (h : PI T ss xs) {s : PySem.Str} (hs : (findN T s).isSome = true) : PI T (ss ++ [s]) (pck T xs s) := by
  obtain ⟨n, hn⟩ := Option.isSome_iff_exists.mp hs
  obtain ⟨n1, n2⟩ := findN_some hn
  have pk : pck T xs s = aput xs s n := by unfold pck; rw [hn]
  rw [pk]
  refine ⟨aput_nodup h.n, fun p hp => ?_, fun x => ?_⟩
  · rcases aput_mem hp with hp | rfl
    · exact h.m p hp
    · exact ⟨n1, n2⟩
  · rw [aput_keys, List.mem_append, List.mem_singleton, ← h.k x]
    split
    · rename_i z
      constructor
      · exact .inl
      · rintro (w | rfl)
        · exact w
        · exact z
    · rw [List.mem_append, List.mem_singleton]
theorem PI.all {T : List Ned} : ∀ {ss : List PySem.Str} {done : List PySem.Str} {xs : List (PySem.Str × Ned)}, PI T done xs → (∀ s ∈ ss, (findN T s).isSome = true) → PI T (done ++ ss) (ss.foldl (pck T) xs)
  | [], done, xs, h, _ => by rw [List.append_nil]; exact h
  | s :: ss, done, xs, h, hs => by
    have := PI.all (ss := ss) (h.turn (hs s List.mem_cons_self)) fun x hx => hs x (List.mem_cons_of_mem _ hx)
    rw [List.append_assoc] at this
    exact this
def some50 (T : List Ned) (ss : List PySem.Str) : List Ned := T.filter fun n => decide (n.n ∈ ss)
theorem pckN_perm {T : List Ned} (hT : NeOk T) {ss : List PySem.Str} (hs : ∀ s ∈ ss, (findN T s).isSome = true) : (pckN T ss).Perm (some50 T ss) := by
  have I := PI.all (T := T) (ss := ss) (done := []) (xs := []) ⟨List.nodup_nil, fun _ h => (nomatch h), fun _ => Iff.rfl⟩ hs
  rw [List.nil_append] at I
  change PI T ss (pckL T ss) at I
  have e1 : (pckN T ss).map (·.n) = (pckL T ss).map (·.1) := by
    unfold pckN
    rw [List.map_map]
    exact List.map_congr_left fun p hp => (I.m p hp).2
  have nd : (pckN T ss).Nodup := nodup_of_map (f := fun x : Ned => x.n) (by rw [e1]; exact I.n)
  have nt : T.Nodup := nodup_of_map hT.n
  refine (List.perm_ext_iff_of_nodup nd (nt.sublist List.filter_sublist)).mpr fun x => ?_
  unfold pckN
  rw [List.mem_map, List.mem_filter, decide_eq_true_eq]
  constructor
  · rintro ⟨p, hp, rfl⟩
    exact ⟨(I.m p hp).1, (I.k _).mp (by rw [(I.m p hp).2]; exact List.mem_map.mpr ⟨p, hp, rfl⟩)⟩
  · rintro ⟨h1, h2⟩
    obtain ⟨p, hp, e⟩ := List.mem_map.mp ((I.k _).mpr h2)
    exact ⟨p, hp, name_inj hT.n _ (I.m p hp).1 _ h1 ((I.m p hp).2.trans e)⟩
def okS (U : List Ned) (s : PySem.Str) (r : List Int) (h : Nat) : Bool := decide (0 < rt r h) && U.any (opN s h)
def slF (U : List Ned) (p : Shp) : List Sl := ((List.range p.2.length).filter fun h => okS U p.1 p.2 h).map fun (h : Nat) => (p.1, (h : Int))
def osl (P : List Shp) (U : List Ned) : List Sl := P.flatMap (slF U)
def okL (P : List Shp) (U : List Ned) (s : PySem.Str) (h : Nat) : Bool := decide (0 < rateP P s h) && U.any (opN s h)
def slL (P : List Shp) (U : List Ned) (s : PySem.Str) : List Sl := ((List.range 12).filter fun h => okL P U s h).map fun (h : Nat) => (s, (h : Int))
def lsl (P : List Shp) (U : List Ned) : List Sl := (srtS (P.map (·.1))).flatMap (slL P U)
theorem rateP_mem {P : List Shp} (hn : (P.map (·.1)).Nodup) {p : Shp} (hp : p ∈ P) (h : Nat) : rateP P p.1 h = rt p.2 h := by
  have e : al P p.1 = some p.2 := al_of_mem hn hp
  unfold rateP
  rw [e]
theorem filter_rangeM {p : Nat → Bool} {n m : Nat} (h : n ≤ m) (hp : ∀ i, n ≤ i → p i = false) : (List.range m).filter p = (List.range n).filter p := by
  obtain ⟨k, rfl⟩ : ∃ k, m = n + k := ⟨m - n, by omega⟩
  have z : ((List.range k).map fun x => n + x).filter p = [] := List.filter_eq_nil_iff.mpr fun a ha z => by
    obtain ⟨j, _, rfl⟩ := List.mem_map.mp ha
    rw [hp _ (by omega)] at z
    cases z
  rw [List.range_add, List.filter_append, z, List.append_nil]
theorem slF_eq {P : List Shp} (hP : ShOk P) {U : List Ned} {p : Shp} (hp : p ∈ P) : slF U p = slL P U p.1 := by
  unfold slF slL
  have e : ∀ h, okL P U p.1 h = okS U p.1 p.2 h := fun h => by unfold okL okS; rw [rateP_mem hP.n hp]
  rw [List.filter_congr fun h _ => e h]
  rw [filter_rangeM (hP.r p hp)]
  intro i hi
  unfold okS
  rw [rt_out (by omega)]
  rfl
theorem osl_perm {P : List Shp} (hP : ShOk P) (U : List Ned) : (lsl P U).Perm (osl P U) := by
  have e : osl P U = (P.map (·.1)).flatMap (slL P U) := by
    unfold osl
    rw [List.flatMap_map]
    rw [List.flatMap_def, List.flatMap_def, List.map_congr_left fun p hp => slF_eq hP hp]
  rw [e]
  exact (srtS_perm _).flatMap_right _
theorem lsl_rise {P : List Shp} (hP : ShOk P) (U : List Ned) : (lsl P U).Pairwise fun a b => leSl a b = true := by
  unfold lsl
  rw [List.pairwise_flatMap]
  constructor
  · intro s _
    unfold slL
    rw [List.pairwise_map]
    exact (List.pairwise_lt_range.filter _).imp fun {a b} h => leSl_eq (by omega)
  · have nd : (srtS (P.map (·.1))).Nodup := (srtS_perm _).nodup_iff.mpr hP.n
    refine ((srtS_pw _).and nd).imp fun {s t} h a ha b hb => ?_
    obtain ⟨i, _, rfl⟩ := List.mem_map.mp ha
    obtain ⟨j, _, rfl⟩ := List.mem_map.mp hb
    exact leSl_ne h.1 h.2
theorem lsl_congr {P : List Shp} {U V : List Ned} (h : U.Perm V) : lsl P U = lsl P V := by
  have e : ∀ s i, U.any (opN s i) = V.any (opN s i) := fun s i => by
    rw [Bool.eq_iff_iff, List.any_eq_true, List.any_eq_true]
    exact ⟨fun ⟨x, hx, e⟩ => ⟨x, h.mem_iff.mp hx, e⟩, fun ⟨x, hx, e⟩ => ⟨x, h.mem_iff.mpr hx, e⟩⟩
  have e2 : slL P U = slL P V := by
    funext s
    unfold slL okL
    simp only [e]
  unfold lsl
  rw [e2]
theorem sum_perm {xs ys : List Int} (h : xs.Perm ys) : xs.sum = ys.sum := by
  induction h with
  | nil => rfl
  | cons x _ ih => rw [List.sum_cons, List.sum_cons, ih]
  | swap x y l => simp only [List.sum_cons]; omega
  | trans _ _ a b => exact a.trans b
def bndV (P : List Shp) (U : List Ned) : Int := (U.map (·.c)).sum - ((lsl P U).map fun p => rateP P p.1 p.2.toNat).sum
theorem bndV_congr {P : List Shp} {U V : List Ned} (h : U.Perm V) : bndV P U = bndV P V := by
  unfold bndV
  rw [lsl_congr h, sum_perm (h.map (·.c))]
theorem osl_len {P : List Shp} (hP : ShOk P) (U : List Ned) : (osl P U).length ≤ 72 := by
  unfold osl
  rw [List.length_flatMap]
  have h1 : ∀ p ∈ P, (slF U p).length ≤ 12 := fun p hp => by
    unfold slF
    rw [List.length_map]
    have := List.length_filter_le (fun h => okS U p.1 p.2 h) (List.range p.2.length)
    rw [List.length_range] at this
    have := hP.r p hp
    omega
  have h2 : ∀ (l : List Shp), (∀ p ∈ l, (slF U p).length ≤ 12) → (l.map fun p => (slF U p).length).sum ≤ 12 * l.length := fun l => by
    induction l with
    | nil => intro _; simp
    | cons a l ih =>
      intro h
      have := ih fun p hp => h p (List.mem_cons_of_mem _ hp)
      have := h a List.mem_cons_self
      rw [List.map_cons, List.sum_cons, List.length_cons]
      omega
  have := h2 P h1
  have := hP.l
  omega
theorem lsl_len {P : List Shp} (hP : ShOk P) (U : List Ned) : (lsl P U).length ≤ 72 := by
  rw [(osl_perm hP U).length_eq]
  exact osl_len hP U
theorem lsl_mem {P : List Shp} (hP : ShOk P) {U : List Ned} {p : Sl} (h : p ∈ lsl P U) : p.1 ∈ P.map (·.1) ∧ ∃ k : Nat, k < 12 ∧ p.2 = (k : Int) := by
  unfold lsl at h
  obtain ⟨s, hs, h⟩ := List.mem_flatMap.mp h
  unfold slL at h
  obtain ⟨k, hk, rfl⟩ := List.mem_map.mp h
  exact ⟨(srtS_perm _).mem_iff.mp hs, k, by simpa using (List.mem_filter.mp hk).1, rfl⟩
theorem any_ok {U : List Ned} {s : PySem.Str} {h : Nat} : gAnyL (.lst (U.map fun n => DD.bl (opN s h n))) = some (.bl (U.any (opN s h))) := by
  have e : (U.map fun n => DD.bl (opN s h n)) = (U.map (opN s h)).map DD.bl := by rw [List.map_map]; rfl
  rw [e, gAnyL_eq, bls?_map]
  show some (DD.bl ((U.map (opN s h)).any id)) = _
  rw [List.any_map]
  rfl
theorem os_turn {U : List Ned} (hU : ∀ x ∈ U, NB x) (lU : U.length ≤ 1000) {nm : PySem.Str} {h : Nat} {v : Int} {F : List Sl} (lF : F.length ≤ 1000) {o0 o4 o7 : Option PV} {τ : TS'} :
    b_open_slots_L2 [o0, some (.fr (neL U)), some (.ow (.lst (F.map slD))), some (.fr (.str nm)), o4, some (.fr (.int (h : Int))), some (.fr (.int v)), o7] τ =
      .ok (.nx [o0, some (.fr (neL U)), some (.ow (.lst ((F ++ if (decide (0 < v) && U.any (opN nm h)) = true then [(nm, (h : Int))] else []).map slD))), some (.fr (.str nm)), o4, some (.fr (.int (h : Int))), some (.fr (.int v)), o7]) τ := by
  have lc : ∀ o2, lcL (.nm 7) dYes (dCallN 2 d_is_open [] (dpCons (dpE (dV 7)) (dpCons (dpE (dTup (dCons (dV 3) (dCons (dV 5) dNil)))) dpNil))) [o0, some (.fr (neL U)), o2, some (.fr (.str nm)), o4, some (.fr (.int (h : Int))), some (.fr (.int v)), none] (U.map neD) τ = .ok (U.map fun n => DD.bl (opN nm h n)) τ := fun o2 =>
    lcL_mapOf fun n hn => ⟨_, tgF_nm, by
      have o := open_ok (n := n) (hU n hn).b.1 (s := nm) (h := h) (τ := τ)
      generalize neL U = NU at *
      generalize neD n = ND at *
      simp (disch := first | omega | (simp <;> omega) | fail) [if_pos, o]⟩
  have ga := any_ok (U := U) (s := nm) (h := h)
  have lU2 : (U.map neD).length ≤ 1000 := by rw [List.length_map]; exact lU
  have lF2 : (F.map slD).length < 16777216 := by rw [List.length_map]; omega
  have lB : (U.map fun n => DD.bl (opN nm h n)).length ≤ 1000 := by rw [List.length_map]; exact lU
  by_cases c : 0 < v
  · cases z : U.any (opN nm h) with
    | true =>
      rw [z] at ga
      rw [if_pos (by rw [decide_eq_true c]; rfl), List.map_append]
      show _ = R.ok (Ct.nx [_, _, some (PV.ow (.lst (_ ++ [DD.tup [.str nm, .int (h : Int)]]))), _, _, _, _, _]) _
      unfold neL at lc ⊢
      generalize (U.map fun n => DD.bl (opN nm h n)) = BB at *
      generalize U.map neD = UU at *
      generalize F.map slD = FF at *
      simp (disch := first | omega | (simp <;> omega) | fail) [if_pos, b_open_slots_L2, c, lc, ga]
    | false =>
      rw [z] at ga
      rw [if_neg (by rw [Bool.and_false]; decide), List.append_nil]
      unfold neL at lc ⊢
      generalize (U.map fun n => DD.bl (opN nm h n)) = BB at *
      generalize U.map neD = UU at *
      generalize F.map slD = FF at *
      simp (disch := first | omega | (simp <;> omega) | fail) [if_pos, b_open_slots_L2, c, lc, ga]
  · rw [if_neg (by rw [decide_eq_false c, Bool.false_and]; decide), List.append_nil]
    generalize F.map slD = FF at *
    generalize neL U = NU at *
    simp (disch := first | omega | (simp <;> omega) | fail) [if_pos, b_open_slots_L2, c]
theorem os_inner {U : List Ned} (hU : ∀ x ∈ U, NB x) (lU : U.length ≤ 1000) {nm : PySem.Str} {r : List Int} (hr : r.length ≤ 12) {F : List Sl} (lF : F.length ≤ 100) {o0 o5 o6 o7 : Option PV} {τ : TS'} :
    ∃ q5 q6, forL (.tp [.nm 5, .nm 6]) b_open_slots_L2 (enumD (r.map DD.int)) [o0, some (.fr (neL U)), some (.ow (.lst (F.map slD))), some (.fr (.str nm)), some (.fr (.tup (r.map DD.int))), o5, o6, o7] τ = .ok (.nx [o0, some (.fr (neL U)), some (.ow (.lst ((F ++ slF U (nm, r)).map slD))), some (.fr (.str nm)), some (.fr (.tup (r.map DD.int))), q5, q6, o7]) τ := by
  obtain ⟨ρ', τ', e, q5, q6, rfl, rfl⟩ := forL_inv (t := .tp [.nm 5, .nm 6]) (δ := b_open_slots_L2) (ds := enumD (r.map DD.int)) (ρ := [o0, some (.fr (neL U)), some (.ow (.lst (F.map slD))), some (.fr (.str nm)), some (.fr (.tup (r.map DD.int))), o5, o6, o7]) (τ := τ)
    (fun i ρ τ' => ∃ q5 q6, τ' = τ ∧ ρ = [o0, some (.fr (neL U)), some (.ow (.lst ((F ++ ((List.range i).filter fun h => okS U nm r h).map fun (h : Nat) => (nm, (h : Int))).map slD))), some (.fr (.str nm)), some (.fr (.tup (r.map DD.int))), q5, q6, o7])
    ⟨o5, o6, rfl, by simp⟩ (by
      rintro i d ρ τ' hd ⟨q5, q6, rfl, rfl⟩
      obtain ⟨x, hx, rfl⟩ := enumD_get hd
      have hi : i < r.length := by
        have := (List.getElem?_eq_some_iff.mp hx).1
        rwa [List.length_map] at this
      rw [List.getElem?_map, rt_get hi] at hx
      cases hx
      have ll : (F ++ ((List.range i).filter fun h => okS U nm r h).map fun (h : Nat) => (nm, (h : Int))).length ≤ 1000 := by
        have := List.length_filter_le (fun h => okS U nm r h) (List.range i)
        rw [List.length_range] at this
        rw [List.length_append, List.length_map]
        omega
      have st := os_turn hU lU (nm := nm) (h := i) (v := rt r i) ll (o0 := o0) (o4 := some (.fr (.tup (r.map DD.int)))) (o7 := o7) (τ := τ')
      have eq : (F ++ ((List.range i).filter fun h => okS U nm r h).map fun (h : Nat) => (nm, (h : Int))) ++ (if (decide (0 < rt r i) && U.any (opN nm i)) = true then [(nm, (i : Int))] else []) = F ++ ((List.range (i + 1)).filter fun h => okS U nm r h).map fun (h : Nat) => (nm, (h : Int)) := by
        rw [List.range_succ, List.filter_append, List.map_append, List.append_assoc]
        congr 2
        have e1 : okS U nm r i = (decide (0 < rt r i) && U.any (opN nm i)) := rfl
        rw [← e1]
        cases z : okS U nm r i <;> simp [z]
      rw [eq] at st
      exact ⟨_, tgF_two, _, _, .inl st, some (.fr (.int (i : Int))), some (.fr (.int (rt r i))), rfl, rfl⟩)
  rw [enumD_len, List.length_map] at e
  exact ⟨q5, q6, e⟩
theorem oslots_ok {P : List Shp} (hP : ShOk P) {U : List Ned} (hU : ∀ x ∈ U, NB x) (lU : U.length ≤ 1000) {τ : TS'} : d_open_slots [.fr (shL P), .fr (neL U)] τ = .ok (OC.lst ((lsl P U).map slD)) τ := by
  have lt : ∀ i, ((P.take i).flatMap (slF U)).length ≤ 72 := fun i => by
    refine osl_len (P := P.take i) ⟨?_, ?_, ?_, ?_, ?_⟩ U
    · rw [List.length_take]; have := hP.l; omega
    · exact hP.n.sublist ((List.take_sublist i P).map _)
    · exact fun p hp => hP.t p (List.mem_of_mem_take hp)
    · exact fun p hp => hP.r p (List.mem_of_mem_take hp)
    · exact fun p hp => hP.v p (List.mem_of_mem_take hp)
  obtain ⟨ρ', τ', e, q3, q4, q5, q6, rfl, rfl⟩ := forL_inv (t := .tp [.nm 3, .nm 4]) (δ := b_open_slots_L1) (ds := P.map shD) (ρ := [some (.fr (shL P)), some (.fr (neL U)), some (.ow (.lst [])), none, none, none, none, none]) (τ := τ)
    (fun i ρ τ' => ∃ q3 q4 q5 q6, τ' = τ ∧ ρ = [some (.fr (shL P)), some (.fr (neL U)), some (.ow (.lst (((P.take i).flatMap (slF U)).map slD))), q3, q4, q5, q6, none])
    ⟨none, none, none, none, rfl, rfl⟩ (by
      rintro i d ρ τ' hd ⟨q3, q4, q5, q6, rfl, rfl⟩
      rw [List.getElem?_map] at hd
      obtain ⟨p, hp, rfl⟩ := Option.map_eq_some_iff.mp hd
      obtain ⟨p5, p6, e⟩ := os_inner hU lU (nm := p.1) (r := p.2) (hP.r p (List.mem_of_getElem? hp)) (F := (P.take i).flatMap (slF U)) (by have := lt i; omega) (o0 := some (.fr (shL P))) (o5 := q5) (o6 := q6) (o7 := none) (τ := τ')
      refine ⟨_, tgF_two, _, _, .inl ?_, some (.fr (.str p.1)), some (.fr (.tup (p.2.map DD.int))), p5, p6, rfl, rfl⟩
      rw [List.take_add_one, hp, List.flatMap_append]
      have e0 : (some p).toList.flatMap (slF U) = slF U (p.1, p.2) := by simp
      rw [e0]
      have lr : (p.2.map DD.int).length ≤ 12 := by rw [List.length_map]; exact hP.r p (List.mem_of_getElem? hp)
      generalize (((P.take i).flatMap (slF U) ++ slF U (p.1, p.2)).map slD) = F2 at *
      generalize ((P.take i).flatMap (slF U)).map slD = F1 at *
      generalize p.2.map DD.int = RR at *
      generalize shL P = PP at *
      generalize neL U = UU at *
      simp (disch := first | omega | (simp <;> omega) | fail) [if_pos, b_open_slots_L1, e])
  rw [List.length_map, List.take_length] at e
  have so := sl_sorted (osl_perm hP U) (lsl_rise hP U) (τ := τ')
  have lP : (P.map shD).length ≤ 6 := by rw [List.length_map]; exact hP.l
  change forL _ _ _ _ _ = R.ok (Ct.nx [_, _, some (.ow (.lst ((osl P U).map slD))), _, _, _, _, _]) _ at e
  unfold shL at e ⊢
  generalize (osl P U).map slD = OS at *
  generalize (lsl P U).map slD = LS at *
  generalize P.map shD = PP at *
  generalize neL U = UU at *
  simp (disch := first | omega | (simp <;> omega) | fail) [if_pos, d_open_slots, b_open_slots, b_open_slots_1, b_open_slots_2, ev_bodyO, startP, List.replicate, e, so]
theorem pckN_ok {T : List Ned} (hT : NeOk T) {ss : List PySem.Str} (hs : ∀ s ∈ ss, (findN T s).isSome = true) : (∀ x ∈ pckN T ss, NB x) ∧ (pckN T ss).length ≤ 24 := by
  have p := pckN_perm hT hs
  refine ⟨fun x hx => hT.nb (List.mem_filter.mp (p.mem_iff.mp hx)).1, ?_⟩
  rw [p.length_eq]
  exact Nat.le_trans (List.length_filter_le _ _) hT.l
theorem slots_ok {P : List Shp} (hP : ShOk P) {T : List Ned} (hT : NeOk T) {ss : List PySem.Str} (hl : ss.length ≤ 100) (hs : ∀ s ∈ ss, (findN T s).isSome = true) {t : Tau} : ∃ t', d_slots_of [.fr (shL P), .fr (neL T), .fr (.tup (ss.map DD.str))] (some t) = .ok (OC.lst ((lsl P (pckN T ss)).map slD)) (some t') ∧ TA t t' := by
  obtain ⟨t', e, a⟩ := picked_ok hT hl hs (t := t)
  obtain ⟨b, c⟩ := pckN_ok hT hs
  have o := oslots_ok hP b (by omega) (τ := some t')
  refine ⟨t', ?_, a⟩
  generalize (lsl P (pckN T ss)).map slD = LS at *
  generalize neL (pckN T ss) = PN at *
  generalize shL P = PP at *
  generalize neL T = TT at *
  generalize ss.map DD.str = SS at *
  simp (disch := first | omega | (simp <;> omega) | fail) [if_pos, d_slots_of, b_slots_of, ev_bodyO, startP, List.replicate, e, o]
theorem bound_ok {P : List Shp} (hP : ShOk P) {T : List Ned} (hT : NeOk T) {ss : List PySem.Str} (hl : ss.length ≤ 100) (hs : ∀ s ∈ ss, (findN T s).isSome = true) {t : Tau} : ∃ t', d_bound [.fr (shL P), .fr (neL T), .fr (.tup (ss.map DD.str))] (some t) = .ok (.int (bndV P (pckN T ss))) (some t') ∧ TA t t' := by
  obtain ⟨t', e, a⟩ := picked_ok hT hl hs (t := t)
  obtain ⟨b, c⟩ := pckN_ok hT hs
  have o := oslots_ok hP b (by omega) (τ := some t')
  have ll := lsl_len hP (pckN T ss)
  have lm := fun p => lsl_mem (p := p) hP (U := pckN T ss)
  refine ⟨t', ?_, a⟩
  unfold bndV
  generalize lsl P (pckN T ss) = L at *
  have lc : ∀ o1 o2 o3 o4 o6, lcL (.nm 5) dYes (dCallN 2 d_rate_at [] (dpCons (dpE (dV 0)) (dpCons (dpE (dV 5)) dpNil))) [some (.fr (shL P)), o1, o2, o3, o4, none, o6] (L.map slD) (some t') = .ok (L.map fun p => DD.int (rateP P p.1 p.2.toNat)) (some t') := fun o1 o2 o3 o4 o6 =>
    lcL_mapOf fun p hp => ⟨_, tgF_nm, by
      obtain ⟨_, k, _, hk⟩ := lm p hp
      have r := rate_ok hP (s := p.1) (h := k) (τ := some t')
      have e1 : p.2.toNat = k := by omega
      rw [e1]
      unfold slD
      rw [hk]
      generalize shL P = PP at *
      simp (disch := first | omega | (simp <;> omega) | fail) [if_pos, r]⟩
  have ei : (L.map fun p => DD.int (rateP P p.1 p.2.toNat)) = (L.map fun p => rateP P p.1 p.2.toNat).map DD.int := by rw [List.map_map]; rfl
  rw [ei] at lc
  have lI : ((L.map fun p => rateP P p.1 p.2.toNat).map DD.int).length ≤ 72 := by rw [List.length_map, List.length_map]; exact ll
  have lS : (L.map slD).length ≤ 72 := by rw [List.length_map]; exact ll
  generalize (L.map fun p => rateP P p.1 p.2.toNat) = RS at *
  have lc2 : ∀ o0 o1 o2 o3 o4 o5, lcL (.nm 6) dYes (dOp gIxT (dV 6) (dC (.int 3))) [o0, o1, o2, o3, o4, o5, none] ((pckN T ss).map neD) (some t') = .ok ((pckN T ss).map fun n => DD.int n.c) (some t') := fun o0 o1 o2 o3 o4 o5 =>
    lcL_mapOf fun n hn => ⟨_, tgF_nm, by
      have a3 : atI [DD.str n.n, .int n.f, .int n.d, .int n.c, .tup (n.b.map DD.str)] 3 = some (.int n.c) := rfl
      unfold neD
      generalize n.b.map DD.str = BB at *
      simp (disch := first | omega | (simp <;> omega) | fail) [if_pos, a3]⟩
  have ei2 : ((pckN T ss).map fun n => DD.int n.c) = ((pckN T ss).map (·.c)).map DD.int := by rw [List.map_map]; rfl
  rw [ei2] at lc2
  have lP2 : ((pckN T ss).map neD).length ≤ 24 := by rw [List.length_map]; exact c
  have sm : gSum (.lst (RS.map DD.int)) = some (.int RS.sum) := by
    unfold gSum
    simp
  unfold neL at e o ⊢
  generalize (pckN T ss).map (·.c) = CS at *
  generalize (pckN T ss).map neD = PN at *
  have ss2 : dSumS (dCons (dLc (dIList (dV 3)) (.nm 6) dYes (dOp gIxT (dV 6) (dC (.int 3))) [6]) dNil) (dCons (dOp Np.gSub (dC (.int 0)) (dCall (c1 gSum) (dCons (dV 4) dNil))) dNil) [some (.fr (shL P)), some (.fr (.lst (T.map neD))), some (.fr (.tup (ss.map DD.str))), some (.fr (.lst PN)), some (.fr (.lst (RS.map DD.int))), none, none] (some t') = .ok (.int (0 - RS.sum + CS.sum)) (some t') :=
    sumS_ok (ns := CS) (j' := 0 - RS.sum) (τ1 := some t') (τ2 := some t') (by
      generalize shL P = PP at *
      generalize RS.map DD.int = RR at *
      simp (disch := first | omega | (simp <;> omega) | fail) [if_pos, lc2]) (by
      generalize shL P = PP at *
      generalize RS.map DD.int = RR at *
      simp (disch := first | omega | (simp <;> omega) | fail) [if_pos, sm])
  rw [show CS.sum - RS.sum = 0 - RS.sum + CS.sum from by omega]
  generalize shL P = PP at *
  generalize RS.map DD.int = RR at *
  generalize L.map slD = SL at *
  generalize T.map neD = TT at *
  generalize ss.map DD.str = SS at *
  simp (disch := first | omega | (simp <;> omega) | fail) [if_pos, d_bound, b_bound, b_bound_1, b_bound_2, ev_body, startP, List.replicate, e, o, lc, ss2]
theorem lrate_loop {P0 : DD} {s : PySem.Str} {h : Nat} {τ : TS'} : ∀ {P : List Shp} (v : Int) (o4 o5 : Option PV), (∀ p ∈ P, p.2.length ≤ 12) → (P.map (·.1)).Nodup →
    ∃ q4 q5, forL (.tp [.nm 4, .nm 5]) b__law_rate_L1 (P.map shD) [some (.fr P0), some (.fr (.str s)), some (.fr (.int (h : Int))), some (.fr (.int v)), o4, o5] τ = .ok (.nx [some (.fr P0), some (.fr (.str s)), some (.fr (.int (h : Int))), some (.fr (.int (match al P s with | some r => if h < r.length then rt r h else v | none => v))), q4, q5]) τ
  | [], v, o4, o5, _, _ => ⟨o4, o5, rfl⟩
  | p :: P, v, o4, o5, hr, hn => by
    obtain ⟨nm, r⟩ := p
    rw [List.map_cons] at hn
    obtain ⟨n1, n2⟩ := List.nodup_cons.mp hn
    have hl := hr _ List.mem_cons_self
    have rc := fun v => lrate_loop (P0 := P0) (s := s) (h := h) (τ := τ) (P := P) v (some (.fr (.str nm))) (some (.fr (.tup (r.map DD.int)))) (fun p hp => hr p (List.mem_cons_of_mem _ hp)) n2
    have tg : tgF (.tp [.nm 4, .nm 5]) (shD (nm, r)) [some (.fr P0), some (.fr (.str s)), some (.fr (.int (h : Int))), some (.fr (.int v)), o4, o5] = some [some (.fr P0), some (.fr (.str s)), some (.fr (.int (h : Int))), some (.fr (.int v)), some (.fr (.str nm)), some (.fr (.tup (r.map DD.int)))] := tgF_two
    have rl : (r.map DD.int).length = r.length := List.length_map _
    dsimp only at hl
    rw [List.map_cons, forL_cons tg]
    by_cases e : nm = s
    · subst e
      have no : al P nm = none := al_none.mpr n1
      have ea : al ((nm, r) :: P) nm = some r := by rw [al_cons, if_pos rfl]
      rw [ea]
      dsimp only
      by_cases c : h < r.length
      · have a := atI_int c
        have step : b__law_rate_L1 [some (.fr P0), some (.fr (.str nm)), some (.fr (.int (h : Int))), some (.fr (.int v)), some (.fr (.str nm)), some (.fr (.tup (r.map DD.int)))] τ = .ok (.nx [some (.fr P0), some (.fr (.str nm)), some (.fr (.int (h : Int))), some (.fr (.int (rt r h))), some (.fr (.str nm)), some (.fr (.tup (r.map DD.int)))]) τ := by
          generalize r.map DD.int = RR at *
          simp (disch := first | omega | (simp <;> omega) | fail) [if_pos, b__law_rate_L1, rl, c, a]
        rw [step, if_pos c]
        obtain ⟨q4, q5, e'⟩ := rc (rt r h)
        rw [no] at e'
        exact ⟨q4, q5, e'⟩
      · have step : b__law_rate_L1 [some (.fr P0), some (.fr (.str nm)), some (.fr (.int (h : Int))), some (.fr (.int v)), some (.fr (.str nm)), some (.fr (.tup (r.map DD.int)))] τ = .ok (.nx [some (.fr P0), some (.fr (.str nm)), some (.fr (.int (h : Int))), some (.fr (.int v)), some (.fr (.str nm)), some (.fr (.tup (r.map DD.int)))]) τ := by
          generalize r.map DD.int = RR at *
          simp (disch := first | omega | (simp <;> omega) | fail) [if_pos, b__law_rate_L1, rl, c]
        rw [step, if_neg c]
        obtain ⟨q4, q5, e'⟩ := rc v
        rw [no] at e'
        exact ⟨q4, q5, e'⟩
    · have e1 : s ≠ nm := fun z => e z.symm
      have step : b__law_rate_L1 [some (.fr P0), some (.fr (.str s)), some (.fr (.int (h : Int))), some (.fr (.int v)), some (.fr (.str nm)), some (.fr (.tup (r.map DD.int)))] τ = .ok (.nx [some (.fr P0), some (.fr (.str s)), some (.fr (.int (h : Int))), some (.fr (.int v)), some (.fr (.str nm)), some (.fr (.tup (r.map DD.int)))]) τ := by
        generalize r.map DD.int = RR at *
        simp (disch := first | omega | (simp <;> omega) | fail) [if_pos, b__law_rate_L1, e, e1]
      have ea : al ((nm, r) :: P) s = al P s := by rw [al_cons, if_neg e]
      rw [step, ea]
      exact rc v
theorem lrate_ok {P : List Shp} (hP : ShOk P) {s : PySem.Str} {h : Nat} {τ : TS'} : d__law_rate [.fr (shL P), .fr (.str s), .fr (.int (h : Int))] τ = .ok (.int (rateP P s h)) τ := by
  have lp : (P.map shD).length ≤ 6 := by rw [List.length_map]; exact hP.l
  obtain ⟨q4, q5, e⟩ := lrate_loop (P0 := shL P) (s := s) (h := h) (τ := τ) (P := P) 0 none none hP.r hP.n
  have ev : (match al P s with | some r => if h < r.length then rt r h else 0 | none => 0) = rateP P s h := by
    unfold rateP
    cases al P s with
    | none => rfl
    | some r =>
      dsimp only
      split
      · rfl
      · rename_i c
        exact (rt_out c).symm
  rw [ev] at e
  unfold shL at e ⊢
  generalize P.map shD = PP at *
  simp (disch := first | omega | (simp <;> omega) | fail) [if_pos, d__law_rate, b__law_rate, b__law_rate_1, b__law_rate_2, ev_body, startP, List.replicate, e]
theorem lopen_ok {n : Ned} (hb : n.b.length ≤ 10) {s : PySem.Str} {h : Nat} {τ : TS'} : d__law_is_open [.fr (neD n), .fr (.str s), .fr (.int (h : Int))] τ = .ok (.bl (opN s h n)) τ := by
  have g := gInF_tux (neg := true) (i := s) (ns := n.b)
  rw [if_pos rfl] at g
  have a1 : atI [DD.str n.n, .int n.f, .int n.d, .int n.c, .tup (n.b.map DD.str)] 1 = some (.int n.f) := rfl
  have a2 : atI [DD.str n.n, .int n.f, .int n.d, .int n.c, .tup (n.b.map DD.str)] 2 = some (.int n.d) := rfl
  have a4 : atI [DD.str n.n, .int n.f, .int n.d, .int n.c, .tup (n.b.map DD.str)] 4 = some (.tup (n.b.map DD.str)) := rfl
  unfold neD opN
  generalize n.b.map DD.str = BB at *
  by_cases c1 : n.f ≤ (h : Int)
  · by_cases c2 : (h : Int) < n.d
    · simp (disch := first | omega | (simp <;> omega) | fail) [if_pos, d__law_is_open, b__law_is_open, ev_body, startP, List.replicate, a1, a2, a4, c1, c2, g]
    · simp (disch := first | omega | (simp <;> omega) | fail) [if_pos, d__law_is_open, b__law_is_open, ev_body, startP, List.replicate, a1, a2, a4, c1, c2, g]
  · simp (disch := first | omega | (simp <;> omega) | fail) [if_pos, d__law_is_open, b__law_is_open, ev_body, startP, List.replicate, a1, a2, a4, c1, g]
theorem any_filter {U : List Ned} {p : Ned → Bool} : (!decide (U.filter p = [])) = U.any p := by
  cases z : U.any p with
  | true =>
    obtain ⟨x, hx, e⟩ := List.any_eq_true.mp z
    rw [decide_eq_false fun w => List.filter_eq_nil_iff.mp w x hx e]
    rfl
  | false =>
    rw [decide_eq_true]
    · rfl
    · exact List.filter_eq_nil_iff.mpr fun x hx e => by
        have : U.any p = true := List.any_eq_true.mpr ⟨x, hx, e⟩
        rw [z] at this
        cases this
theorem ls_turn {P : List Shp} (hP : ShOk P) {U : List Ned} (hU : ∀ x ∈ U, NB x) (lU : U.length ≤ 1000) {nm : PySem.Str} {h : Nat} {F : List Sl} (lF : F.length ≤ 1000) {o4 o5 o7 : Option PV} {τ : TS'} :
    b__law_slots_L2 [some (.fr (shL P)), some (.fr (neL U)), some (.ow (.lst (F.map slD))), some (.fr (.str nm)), o4, o5, some (.fr (.int (h : Int))), o7] τ =
      .ok (.nx [some (.fr (shL P)), some (.fr (neL U)), some (.ow (.lst ((F ++ if okL P U nm h = true then [(nm, (h : Int))] else []).map slD))), some (.fr (.str nm)), o4, o5, some (.fr (.int (h : Int))), o7]) τ := by
  have r := lrate_ok hP (s := nm) (h := h) (τ := τ)
  have lc : ∀ o2, lcL (.nm 7) (dTest (dCallN 3 d__law_is_open [] (dpCons (dpE (dV 7)) (dpCons (dpE (dV 3)) (dpCons (dpE (dV 6)) dpNil))))) (dV 7) [some (.fr (shL P)), some (.fr (neL U)), o2, some (.fr (.str nm)), o4, o5, some (.fr (.int (h : Int))), none] (U.map neD) τ = .ok ((U.filter (opN nm h)).map neD) τ := fun o2 =>
    lcL_fmapOf fun n hn => ⟨_, tgF_nm, by
      have o := lopen_ok (n := n) (hU n hn).b.1 (s := nm) (h := h) (τ := τ)
      generalize neL U = NU at *
      generalize shL P = PP at *
      generalize neD n = ND at *
      simp (disch := first | omega | (simp <;> omega) | fail) [if_pos, o], fun _ => by
      generalize neL U = NU at *
      generalize shL P = PP at *
      simp (disch := first | omega | (simp <;> omega) | fail) [if_pos, ]⟩
  have nn := ne_needs (T := U.filter (opN nm h)) fun x hx => hU x (List.mem_filter.mp hx).1
  rw [any_filter] at nn
  have lU2 : (U.map neD).length ≤ 1000 := by rw [List.length_map]; exact lU
  have lF2 : (F.map slD).length < 16777216 := by rw [List.length_map]; omega
  have lB : ((U.filter (opN nm h)).map neD).length ≤ 1000 := by rw [List.length_map]; exact Nat.le_trans (List.length_filter_le _ _) lU
  unfold okL
  by_cases c : 0 < rateP P nm h
  · cases z : U.any (opN nm h) with
    | true =>
      rw [z] at nn
      rw [if_pos (by rw [decide_eq_true c]; rfl), List.map_append]
      show _ = R.ok (Ct.nx [_, _, some (PV.ow (.lst (_ ++ [DD.tup [.str nm, .int (h : Int)]]))), _, _, _, _, _]) _
      unfold neL at lc ⊢
      generalize ((U.filter (opN nm h)).map neD) = BB at *
      generalize U.map neD = UU at *
      generalize F.map slD = FF at *
      generalize shL P = PP at *
      simp (disch := first | omega | (simp <;> omega) | fail) [if_pos, b__law_slots_L2, c, lc, nn, r]
    | false =>
      rw [z] at nn
      rw [if_neg (by rw [Bool.and_false]; decide), List.append_nil]
      unfold neL at lc ⊢
      generalize ((U.filter (opN nm h)).map neD) = BB at *
      generalize U.map neD = UU at *
      generalize F.map slD = FF at *
      generalize shL P = PP at *
      simp (disch := first | omega | (simp <;> omega) | fail) [if_pos, b__law_slots_L2, c, lc, nn, r]
  · rw [if_neg (by rw [decide_eq_false c, Bool.false_and]; decide), List.append_nil]
    generalize F.map slD = FF at *
    generalize neL U = NU at *
    generalize shL P = PP at *
    simp (disch := first | omega | (simp <;> omega) | fail) [if_pos, b__law_slots_L2, c, r]
theorem ls_inner {P : List Shp} (hP : ShOk P) {U : List Ned} (hU : ∀ x ∈ U, NB x) (lU : U.length ≤ 1000) {nm : PySem.Str} {F : List Sl} (lF : F.length ≤ 100) {o4 o5 o6 : Option PV} {τ : TS'} :
    ∃ q6, forL (.nm 6) b__law_slots_L2 (rangeD 0 12) [some (.fr (shL P)), some (.fr (neL U)), some (.ow (.lst (F.map slD))), some (.fr (.str nm)), o4, o5, o6, none] τ = .ok (.nx [some (.fr (shL P)), some (.fr (neL U)), some (.ow (.lst ((F ++ slL P U nm).map slD))), some (.fr (.str nm)), o4, o5, q6, none]) τ := by
  obtain ⟨ρ', τ', e, q6, rfl, rfl⟩ := forL_inv (t := .nm 6) (δ := b__law_slots_L2) (ds := rangeD 0 12) (ρ := [some (.fr (shL P)), some (.fr (neL U)), some (.ow (.lst (F.map slD))), some (.fr (.str nm)), o4, o5, o6, none]) (τ := τ)
    (fun i ρ τ' => ∃ q6, τ' = τ ∧ ρ = [some (.fr (shL P)), some (.fr (neL U)), some (.ow (.lst ((F ++ ((List.range i).filter fun h => okL P U nm h).map fun (h : Nat) => (nm, (h : Int))).map slD))), some (.fr (.str nm)), o4, o5, q6, none])
    ⟨o6, rfl, by simp⟩ (by
      rintro i d ρ τ' hd ⟨q6, rfl, rfl⟩
      obtain ⟨hi, rfl⟩ := rangeD_get0 hd
      have ll : (F ++ ((List.range i).filter fun h => okL P U nm h).map fun (h : Nat) => (nm, (h : Int))).length ≤ 1000 := by
        have := List.length_filter_le (fun h => okL P U nm h) (List.range i)
        rw [List.length_range] at this
        rw [List.length_append, List.length_map]
        omega
      have st := ls_turn hP hU lU (nm := nm) (h := i) ll (o4 := o4) (o5 := o5) (o7 := none) (τ := τ')
      have eq : (F ++ ((List.range i).filter fun h => okL P U nm h).map fun (h : Nat) => (nm, (h : Int))) ++ (if okL P U nm i = true then [(nm, (i : Int))] else []) = F ++ ((List.range (i + 1)).filter fun h => okL P U nm h).map fun (h : Nat) => (nm, (h : Int)) := by
        rw [List.range_succ, List.filter_append, List.map_append, List.append_assoc]
        congr 2
        cases z : okL P U nm i <;> simp [z]
      rw [eq] at st
      exact ⟨_, tgF_nm, _, _, .inl st, some (.fr (.int (i : Int))), rfl, rfl⟩)
  rw [rangeD_len] at e
  exact ⟨q6, e⟩
theorem lslots_ok {P : List Shp} (hP : ShOk P) {U : List Ned} (hU : ∀ x ∈ U, NB x) (lU : U.length ≤ 1000) {τ : TS'} : d__law_slots [.fr (shL P), .fr (neL U)] τ = .ok (.lst ((lsl P U).map slD)) τ := by
  have ns6 : (srtS (P.map (·.1))).length ≤ 6 := by rw [(srtS_perm _).length_eq, List.length_map]; exact hP.l
  have lt : ∀ i, i ≤ 6 → (((srtS (P.map (·.1))).take i).flatMap (slL P U)).length ≤ 72 := fun i hi => by
    have h2 : ∀ (l : List PySem.Str), (l.flatMap (slL P U)).length ≤ 12 * l.length := fun l => by
      induction l with
      | nil => simp
      | cons a l ih =>
        have h1 : (slL P U a).length ≤ 12 := by
          unfold slL
          rw [List.length_map]
          have := List.length_filter_le (fun h => okL P U a h) (List.range 12)
          rwa [List.length_range] at this
        rw [List.flatMap_cons, List.length_append, List.length_cons]
        omega
    have := h2 ((srtS (P.map (·.1))).take i)
    rw [List.length_take] at this
    omega
  have lc : ∀ o1 o2 o3 o6 o7, lcL (.tp [.nm 4, .nm 5]) dYes (dV 4) [some (.fr (shL P)), o1, o2, o3, none, none, o6, o7] (P.map shD) τ = .ok ((P.map (·.1)).map DD.str) τ := fun o1 o2 o3 o6 o7 => by
    rw [List.map_map]
    refine lcL_mapOf fun p hp => ⟨_, tgF_two, ?_⟩
    generalize shL P = PP at *
    generalize p.2.map DD.int = RR at *
    simp (disch := first | omega | (simp <;> omega) | fail) [if_pos, ]
  have so := gSrtT_eq (xs := P.map (·.1)) (by rw [List.length_map]; have := hP.l; omega)
  obtain ⟨ρ', τ', e, q3, q6, rfl, rfl⟩ := forL_inv (t := .nm 3) (δ := b__law_slots_L1) (ds := (srtS (P.map (·.1))).map DD.str) (ρ := [some (.fr (shL P)), some (.fr (neL U)), some (.ow (.lst [])), none, none, none, none, none]) (τ := τ)
    (fun i ρ τ' => ∃ q3 q6, τ' = τ ∧ ρ = [some (.fr (shL P)), some (.fr (neL U)), some (.ow (.lst ((((srtS (P.map (·.1))).take i).flatMap (slL P U)).map slD))), q3, none, none, q6, none])
    ⟨none, none, rfl, rfl⟩ (by
      rintro i d ρ τ' hd ⟨q3, q6, rfl, rfl⟩
      rw [List.getElem?_map] at hd
      obtain ⟨s, hs, rfl⟩ := Option.map_eq_some_iff.mp hd
      have hi := (List.getElem?_eq_some_iff.mp hs).1
      obtain ⟨p6, e⟩ := ls_inner hP hU lU (nm := s) (F := ((srtS (P.map (·.1))).take i).flatMap (slL P U)) (by have := lt i (by omega); omega) (o4 := none) (o5 := none) (o6 := q6) (τ := τ')
      have tk : ((srtS (P.map (·.1))).take (i + 1)).flatMap (slL P U) = ((srtS (P.map (·.1))).take i).flatMap (slL P U) ++ slL P U s := by
        rw [List.take_add_one, hs, List.flatMap_append]
        simp
      refine ⟨_, tgF_nm, _, _, .inl ?_, some (.fr (.str s)), p6, rfl, rfl⟩
      rw [tk]
      have rg : rgOk 0 12 := by unfold rgOk; omega
      generalize ((((srtS (P.map (·.1))).take i).flatMap (slL P U) ++ slL P U s).map slD) = F2 at *
      generalize (((srtS (P.map (·.1))).take i).flatMap (slL P U)).map slD = F1 at *
      generalize shL P = PP at *
      generalize neL U = UU at *
      simp (disch := first | omega | (simp <;> omega) | fail) [if_pos, b__law_slots_L1, rg, e])
  rw [List.length_map, List.take_length] at e
  have lP : (P.map shD).length ≤ 6 := by rw [List.length_map]; exact hP.l
  have lN : ((P.map (·.1)).map DD.str).length ≤ 6 := by rw [List.length_map, List.length_map]; exact hP.l
  have lS : ((srtS (P.map (·.1))).map DD.str).length ≤ 6 := by rw [List.length_map]; exact ns6
  change forL _ _ _ _ _ = R.ok (Ct.nx [_, _, some (.ow (.lst ((lsl P U).map slD))), _, _, _, _, _]) _ at e
  unfold shL at e lc ⊢
  generalize (lsl P U).map slD = LS at *
  generalize (srtS (P.map (·.1))).map DD.str = SS at *
  generalize (P.map (·.1)).map DD.str = NS at *
  generalize P.map shD = PP at *
  generalize neL U = UU at *
  simp (disch := first | omega | (simp <;> omega) | fail) [if_pos, d__law_slots, b__law_slots, b__law_slots_1, b__law_slots_2, ev_body, startP, List.replicate, lc, so, e]
theorem lsome_lc {T : List Ned} {ss : List PySem.Str} {i j : Nat} {ρ : PEnv} {τ : TS'} (hj : ∀ d, (ρ.set i (some (.fr d)))[i]? = some (some (.fr d))) (hk : ∀ d, (ρ.set i (some (.fr d)))[j]? = some (some (.fr (.tup (ss.map DD.str))))) :
    lcL (.nm i) (dTest (dOp (gInF false) (dOp gIxT (dV i) (dC (.int 0))) (dV j))) (dV i) ρ (T.map neD) τ = .ok ((some50 T ss).map neD) τ :=
  lcL_fmapOf fun n hn => ⟨_, tgF_nm, by
    have g := gInF_tux (neg := false) (i := n.n) (ns := ss)
    rw [if_neg (by decide)] at g
    have h1 := hj (neD n)
    have h2 := hk (neD n)
    have a0 : atI [DD.str n.n, .int n.f, .int n.d, .int n.c, .tup (n.b.map DD.str)] 0 = some (.str n.n) := rfl
    unfold neD at h1 h2 ⊢
    generalize n.b.map DD.str = BB at *
    generalize ss.map DD.str = SS at *
    simp (disch := first | omega | (simp <;> omega) | fail) [if_pos, h1, h2, a0, g], fun _ => by
    have h1 := hj (neD n)
    simp (disch := first | omega | (simp <;> omega) | fail) [if_pos, h1]⟩
theorem lbound_ok {P : List Shp} (hP : ShOk P) {T : List Ned} (hT : NeOk T) {ss : List PySem.Str} {τ : TS'} : d__law_bound [.fr (shL P), .fr (neL T), .fr (.tup (ss.map DD.str))] τ = .ok (.int (bndV P (some50 T ss))) τ := by
  have lc := lsome_lc (T := T) (ss := ss) (i := 4) (j := 2) (ρ := [some (.fr (shL P)), some (.fr (neL T)), some (.fr (.tup (ss.map DD.str))), none, none, none, none, none]) (τ := τ) (fun _ => rfl) (fun _ => rfl)
  have nb : ∀ x ∈ some50 T ss, NB x := fun x hx => hT.nb (List.mem_filter.mp hx).1
  have ll : (some50 T ss).length ≤ 24 := Nat.le_trans (List.length_filter_le _ _) hT.l
  generalize some50 T ss = U at *
  have ls := lslots_ok hP nb (by omega) (τ := τ)
  have lL := lsl_len hP U
  have lm := fun p => lsl_mem (p := p) hP (U := U)
  obtain ⟨ρ1, τ1, e1, q4, rfl, rfl⟩ := forL_inv (t := .nm 4) (δ := b__law_bound_L1) (ds := U.map neD) (ρ := [some (.fr (shL P)), some (.fr (neL T)), some (.fr (.tup (ss.map DD.str))), some (.fr (.lst (U.map neD))), none, some (.fr (.int 0)), none, none]) (τ := τ)
    (fun i ρ τ' => ∃ q4, τ' = τ ∧ ρ = [some (.fr (shL P)), some (.fr (neL T)), some (.fr (.tup (ss.map DD.str))), some (.fr (.lst (U.map neD))), q4, some (.fr (.int ((U.take i).map (·.c)).sum)), none, none])
    ⟨none, rfl, rfl⟩ (by
      rintro i d ρ τ' hd ⟨q4, rfl, rfl⟩
      rw [List.getElem?_map] at hd
      obtain ⟨n, hn, rfl⟩ := Option.map_eq_some_iff.mp hd
      refine ⟨_, tgF_nm, _, _, .inl ?_, some (.fr (neD n)), rfl, rfl⟩
      have tk : ((U.take (i + 1)).map (·.c)).sum = ((U.take i).map (·.c)).sum + n.c := by
        rw [List.take_add_one, hn, List.map_append, List.sum_append]
        simp
      rw [tk]
      have a3 : atI [DD.str n.n, .int n.f, .int n.d, .int n.c, .tup (n.b.map DD.str)] 3 = some (.int n.c) := rfl
      unfold neD
      generalize shL P = PP at *
      generalize neL T = TT at *
      generalize n.b.map DD.str = BB at *
      generalize ss.map DD.str = SS at *
      simp (disch := first | omega | (simp <;> omega) | fail) [if_pos, b__law_bound_L1, a3])
  rw [List.length_map, List.take_length] at e1
  obtain ⟨ρ2, τ2, e2, q6, q7, rfl, rfl⟩ := forL_inv (t := .tp [.nm 6, .nm 7]) (δ := b__law_bound_L2) (ds := (lsl P U).map slD) (ρ := [some (.fr (shL P)), some (.fr (neL T)), some (.fr (.tup (ss.map DD.str))), some (.fr (.lst (U.map neD))), q4, some (.fr (.int (U.map (·.c)).sum)), none, none]) (τ := τ1)
    (fun i ρ τ' => ∃ q6 q7, τ' = τ1 ∧ ρ = [some (.fr (shL P)), some (.fr (neL T)), some (.fr (.tup (ss.map DD.str))), some (.fr (.lst (U.map neD))), q4, some (.fr (.int ((U.map (·.c)).sum - (((lsl P U).take i).map fun p => rateP P p.1 p.2.toNat).sum))), q6, q7])
    ⟨none, none, rfl, by simp⟩ (by
      rintro i d ρ τ' hd ⟨q6, q7, rfl, rfl⟩
      rw [List.getElem?_map] at hd
      obtain ⟨p, hp, rfl⟩ := Option.map_eq_some_iff.mp hd
      obtain ⟨_, k, _, hk⟩ := lm p (List.mem_of_getElem? hp)
      have r := lrate_ok hP (s := p.1) (h := k) (τ := τ')
      rw [← hk] at r
      refine ⟨_, tgF_two, _, _, .inl ?_, some (.fr (.str p.1)), some (.fr (.int p.2)), rfl, rfl⟩
      have tk : (((lsl P U).take (i + 1)).map fun p => rateP P p.1 p.2.toNat).sum = (((lsl P U).take i).map fun p => rateP P p.1 p.2.toNat).sum + rateP P p.1 k := by
        have e1 : p.2.toNat = k := by omega
        rw [List.take_add_one, hp, List.map_append, List.sum_append]
        simp [e1]
      rw [tk, show ∀ a b c : Int, a - (b + c) = a - b - c from fun a b c => by omega]
      generalize (((lsl P U).take i).map fun p => rateP P p.1 p.2.toNat).sum = Z at *
      generalize (U.map (·.c)).sum = Y at *
      generalize U.map neD = UU at *
      generalize shL P = PP at *
      generalize neL T = TT at *
      generalize ss.map DD.str = SS at *
      simp (disch := first | omega | (simp <;> omega) | fail) [if_pos, b__law_bound_L2, r])
  rw [List.length_map, List.take_length] at e2
  have lT : (T.map neD).length ≤ 24 := by rw [List.length_map]; exact hT.l
  have lU : (U.map neD).length ≤ 24 := by rw [List.length_map]; exact ll
  have lS : ((lsl P U).map slD).length ≤ 72 := by rw [List.length_map]; exact lL
  unfold bndV
  unfold neL at e1 e2 lc ls ⊢
  generalize ((lsl P U).map fun p => rateP P p.1 p.2.toNat).sum = Z at *
  generalize (U.map (·.c)).sum = Y at *
  generalize (lsl P U).map slD = LS at *
  generalize U.map neD = UU at *
  generalize shL P = PP at *
  generalize T.map neD = TT at *
  generalize ss.map DD.str = SS at *
  simp (disch := first | omega | (simp <;> omega) | fail) [if_pos, d__law_bound, b__law_bound, b__law_bound_1, b__law_bound_2, b__law_bound_3, b__law_bound_4, ev_body, startP, List.replicate, lc, ls, e1, e2]
def eStrX (r : R (List DD)) (cls : PySem.Str) (F : Fn) : R DD := r.bind fun xs τ1 => match xs with
  | [.exc C fs] => if C = cls then (F [.fr (.exc C fs)] τ1).nox.bind fun d τ2 => match d with
      | .str z => .ok (.str z) τ2
      | _ => .no
    else .no
  | _ => .no
@[simp] theorem ev_StrX {cls : PySem.Str} {F : Fn} {a : DA} {ρ : PEnv} {τ : TS'} : dStrX cls F a ρ τ = eStrX (a ρ τ) cls F := id rfl
theorem eStrX_is {cls : PySem.Str} {F : Fn} {fs : List (PySem.Str × DD)} {z : PySem.Str} {τ : TS'} (h : F [.fr (.exc cls fs)] τ = .ok (.str z) τ) : eStrX (.ok [.exc cls fs] τ) cls F = .ok (.str z) τ := by
  show (if cls = cls then _ else _) = _
  rw [if_pos rfl, h]
  rfl
theorem lit_no : Str.ofString "no " = S [110, 111, 32] := by decide +kernel
theorem cat_n (x y : PySem.Str) : (x ++ y).length = x.length + y.length := by
  show (x.cps ++ y.cps).size = _
  rw [Array.size_append]
  rfl
theorem eJs_if {y acc : PySem.Str} {ds : List DE} {ρ : PEnv} {τ : TS'} : eJs (.ok (.str y) τ) acc ds ρ = if acc.length + y.length ≤ 16777216 then dJs ds (acc ++ y) ρ τ else .no := by
  show (if (acc ++ y).length ≤ sizeLine then dJs ds (acc ++ y) ρ τ else .no) = _
  rw [cat_n]
  rfl
section
variable {α β : Type} {τ : TS'} {ρ : PEnv} {x : Ex} {k : Nat} {b : DA}
@[simp] theorem eMap_ex {f : α → β} : eMap (.ex x τ : R α) f = .ex x τ := id rfl
@[simp] theorem eDrop_ex : eDrop (.ex x τ) ρ = .ok (.xc x ρ) τ := id rfl
@[simp] theorem eBodyO_xc {τ0 : TS'} : eBodyO (.ok (.xc x ρ) τ) τ0 = .ex x (fixT τ0 τ) := id rfl
@[simp] theorem eCons1_ex {f : PEnv → TS' → R (List α)} : eCons1 (.ex x τ : R α) f ρ = .ex x τ := id rfl
@[simp] theorem eCons2_ex {a : α} : eCons2 (.ex x τ : R (List α)) a = .ex x τ := id rfl
@[simp] theorem eCallON_ex {F : FnO} : eCallON (.ex x τ) k F [] = .ex x τ := id rfl
@[simp] theorem eRetF_ex : eRetF (.ex x τ) ρ = .ok (.xc x ρ) τ := id rfl
end
theorem tb1 (b : Bool) : tb "Unknown" b tb0 "Unknown" = some b := by cases b <;> decide +kernel
theorem ustr_ok {s : PySem.Str} (h : Tx 9 s) {τ : TS'} : d_UnknownD_strD [.fr (.exc "Unknown" [("name", .str s)])] τ = .ok (.str (S [110, 111, 32] ++ s)) τ := by
  have e1 : Str.empty = S [] := by rw [← lit_emp]; rfl
  have e2 : S [] ++ S [110, 111, 32] = S [110, 111, 32] := by decide +kernel
  have hl := h.len
  have w1 : decide (("Unknown" : PySem.Str) ∈ (["Unknown"] : List PySem.Str)) = true := by decide +kernel
  have l3 : (S [110, 111, 32]).length = 3 := by decide +kernel
  have l0 : (S []).length = 0 := by decide +kernel
  have h9 : s.length ≤ 16777213 := by omega
  simp (disch := first | omega | (simp <;> omega) | fail) [if_pos, d_UnknownD_strD, b_UnknownD_strD, ev_body, startP, lit_no, e1, eJs_if, List.lookup, w1, e2, l3, l0, h9]
def refT (s : PySem.Str) : DD := .tup [.str "unknown", .str s, .str (S [110, 111, 32] ++ s)]
theorem refusal_ok {s : PySem.Str} (h : Tx 9 s) {τ : TS'} : d__law_refusal [.fr (.exc "Unknown" [("name", .str s)])] τ = .ok (refT s) τ := by
  have u := eStrX_is (cls := "Unknown") (ustr_ok h (τ := τ)) (τ := τ)
  have w1 : decide (("Unknown" : PySem.Str) ∈ (["Unknown"] : List PySem.Str)) = true := by decide +kernel
  have k1 : ([("name", .str s)] : List (PySem.Str × DD)).lookup (Str.ofString "name") = some (.str s) := rfl
  unfold refT
  generalize S [110, 111, 32] ++ s = D at *
  simp (disch := first | omega | (simp <;> omega) | fail) [if_pos, d__law_refusal, b__law_refusal, b__law_refusal_1, b__law_refusal_2, ev_body, startP, List.replicate, u, w1, k1, tb1]
section
variable {P : List Shp} (hP : ShOk P) {T : List Ned} (hT : NeOk T) {l r : List PySem.Str} {s : PySem.Str} (hl : l.length + r.length ≤ 100) (hs : ∀ x ∈ l, (findN T x).isSome = true) (hn : findN T s = none)
include hT hl hs hn
theorem bound_no {t : Tau} : ∃ t', d_bound [.fr (shL P), .fr (neL T), .fr (.tup ((l ++ s :: r).map DD.str))] (some t) = .ex (unX s) (some t') ∧ TA t t' := by
  obtain ⟨t', e, a⟩ := picked_no hT hl hs hn (t := t)
  refine ⟨t', ?_, a⟩
  generalize shL P = PP at *
  generalize neL T = TT at *
  generalize unX s = X at *
  generalize (l ++ s :: r).map DD.str = SS at *
  simp (disch := first | omega | (simp <;> omega) | fail) [if_pos, d_bound, b_bound, ev_body, startP, List.replicate, e]
theorem slots_no {t : Tau} : ∃ t', d_slots_of [.fr (shL P), .fr (neL T), .fr (.tup ((l ++ s :: r).map DD.str))] (some t) = .ex (unX s) (some t') ∧ TA t t' := by
  obtain ⟨t', e, a⟩ := picked_no hT hl hs hn (t := t)
  refine ⟨t', ?_, a⟩
  generalize shL P = PP at *
  generalize neL T = TT at *
  generalize unX s = X at *
  generalize (l ++ s :: r).map DD.str = SS at *
  simp (disch := first | omega | (simp <;> omega) | fail) [if_pos, d_slots_of, b_slots_of, ev_bodyO, startP, List.replicate, e]
end
section
variable {P : List Shp} {T : List Ned} (hT : NeOk T) {l r : List PySem.Str} {s : PySem.Str} (ts : Tx 9 s) (hl : l.length + r.length ≤ 100) (hs : ∀ x ∈ l, (findN T x).isSome = true) (hn : findN T s = none)
include hT hl hs hn ts
theorem refused_ok {w : Nat} (hw : w < 2) {t : Tau} : ∃ t', d__law_refused [.fr (.int (w : Int)), .fr (shL P), .fr (neL T), .fr (.tup ((l ++ s :: r).map DD.str))] (some t) = .ok (refT s) (some t') ∧ TA t t' := by
  have u := fun τ => refusal_ok ts (τ := τ)
  have hw : w = 0 ∨ w = 1 := by omega
  rcases hw with rfl | rfl
  · obtain ⟨t', e, a⟩ := bound_no (P := P) hT hl hs hn (t := t)
    refine ⟨t', ?_, a⟩
    unfold unX at e
    generalize refT s = RT at *
    generalize shL P = PP at *
    generalize neL T = TT at *
    generalize (l ++ s :: r).map DD.str = SS at *
    simp (disch := first | omega | (simp <;> omega) | fail) [if_pos, d__law_refused, b__law_refused, b__law_refused_1, b__law_refused_2, ev_bodyN, startP, List.replicate, e, tb1, u]
  · obtain ⟨t', e, a⟩ := slots_no (P := P) hT hl hs hn (t := t)
    refine ⟨t', ?_, a⟩
    unfold unX at e
    generalize refT s = RT at *
    generalize shL P = PP at *
    generalize neL T = TT at *
    generalize (l ++ s :: r).map DD.str = SS at *
    simp (disch := first | omega | (simp <;> omega) | fail) [if_pos, d__law_refused, b__law_refused, b__law_refused_1, b__law_refused_2, ev_bodyN, startP, List.replicate, e, tb1, u]
end
theorem rbL {n k m : Nat} {ds : List DD} (h : ∀ d ∈ ds, Rb n k d) (hm : ds.length ≤ m) : Rb ((n + 1) * m) (k + 1) (.lst ds) := (Rb.lst (RbA.all h)).mono (Nat.mul_le_mul_left _ hm) (Nat.le_refl _)
theorem rbT {n k m : Nat} {ds : List DD} (h : ∀ d ∈ ds, Rb n k d) (hm : ds.length ≤ m) : Rb ((n + 1) * m) (k + 1) (.tup ds) := (Rb.tup (RbA.all h)).mono (Nat.mul_le_mul_left _ hm) (Nat.le_refl _)
theorem shD_rb {P : List Shp} (hP : ShOk P) {p : Shp} (hp : p ∈ P) : Rb 400 2 (shD p) := by
  unfold shD
  refine (rbT (n := 100) (k := 1) (m := 2) (fun d hd => ?_) (by simp)).mono (by decide) (by decide)
  simp only [List.mem_cons, List.not_mem_nil, or_false] at hd
  rcases hd with rfl | rfl
  · exact (Rb.str (hP.t p hp)).mono (by decide) (by decide)
  · refine (rbT (n := 0) (k := 0) (m := 12) (fun d hd => ?_) (by rw [List.length_map]; exact hP.r p hp)).mono (by decide) (by decide)
    obtain ⟨x, hx, rfl⟩ := List.mem_map.mp hd
    have := hP.v p hp x hx
    exact Rb.big (by omega)
theorem neD_rbN {x : Ned} (h : NB x) : Rb 1000 2 (neD x) := by
  unfold neD
  have f := h.f
  refine (rbT (n := 150) (k := 1) (m := 5) (fun d hd => ?_) (by simp)).mono (by decide) (by decide)
  simp only [List.mem_cons, List.not_mem_nil, or_false] at hd
  rcases hd with rfl | rfl | rfl | rfl | rfl
  · exact (Rb.str h.t).mono (by decide) (by decide)
  · exact (Rb.big (by omega)).mono (by decide) (by decide)
  · exact (Rb.big (by omega)).mono (by decide) (by decide)
  · exact (Rb.big (by omega)).mono (by decide) (by decide)
  · refine (rbT (n := 9) (k := 0) (m := 10) (fun d hd => ?_) (by rw [List.length_map]; exact h.b.1)).mono (by decide) (by decide)
    obtain ⟨s, hs, rfl⟩ := List.mem_map.mp hd
    exact Rb.str (h.b.2 s hs)
theorem gReprA_t {xs : List DD} : gReprA (.tup xs) = gRepr (.tup xs) := id rfl
theorem gReprA_l {xs : List DD} : gReprA (.lst xs) = gRepr (.lst xs) := id rfl
theorem all_repr {P : List Shp} (hP : ShOk P) {T : List Ned} (hT : NeOk T) {ss : List PySem.Str} (hl : ss.length ≤ 100) (ht : ∀ s ∈ ss, Tx 9 s) : ∃ x, gReprA (.tup [shL P, neL T, .tup (ss.map DD.str)]) = some (.str x) := by
  rw [gReprA_t]
  have r1 : Rb 2500 3 (shL P) := (rbL (m := 6) (fun d hd => by
    obtain ⟨p, hp, rfl⟩ := List.mem_map.mp hd
    exact shD_rb hP hp) (by rw [List.length_map]; exact hP.l)).mono (by decide) (by decide)
  have r2 : Rb 25000 3 (neL T) := (rbL (m := 24) (fun d hd => by
    obtain ⟨p, hp, rfl⟩ := List.mem_map.mp hd
    exact neD_rbN (hT.nb hp)) (by rw [List.length_map]; exact hT.l)).mono (by decide) (by decide)
  have r3 : Rb 1000 3 (.tup (ss.map DD.str)) := (rbT (n := 9) (k := 0) (m := 100) (fun d hd => by
    obtain ⟨s, hs, rfl⟩ := List.mem_map.mp hd
    exact Rb.str (ht s hs)) (by rw [List.length_map]; exact hl)).mono (by decide) (by decide)
  exact gRepr_ok (Rb.tup (RbA.cons r1 (RbA.cons r2 (RbA.cons r3 (RbA.all (n := 0) (ds := []) (fun d hd => by cases hd)))))) rfl (by decide) (by decide)
theorem slots_repr {P : List Shp} (hP : ShOk P) {U : List Ned} : ∃ x, gReprA (.lst ((lsl P U).map slD)) = some (.str x) := by
  rw [gReprA_l]
  refine gRepr_ok (rbL (n := 30) (k := 1) (m := 72) (fun d hd => ?_) (by rw [List.length_map]; exact lsl_len hP U)) rfl (by decide) (by decide)
  obtain ⟨p, hp, rfl⟩ := List.mem_map.mp hd
  obtain ⟨h1, k, hk, e⟩ := lsl_mem hP hp
  obtain ⟨q, hq, e1⟩ := List.mem_map.mp h1
  unfold slD
  refine (rbT (n := 9) (k := 0) (m := 2) (fun d hd => ?_) (by simp)).mono (by decide) (by decide)
  simp only [List.mem_cons, List.not_mem_nil, or_false] at hd
  rcases hd with rfl | rfl
  · rw [← e1]
    exact Rb.str (hP.t q hq)
  · exact (Rb.big (by omega)).mono (by decide) (by decide)
theorem sum_bd {M : Int} : ∀ {xs : List Int}, (∀ x ∈ xs, 0 ≤ x ∧ x ≤ M) → 0 ≤ xs.sum ∧ xs.sum ≤ (xs.length : Int) * M
  | [], _ => by simp
  | x :: xs, h => by
    have a := h x List.mem_cons_self
    have b := sum_bd (xs := xs) (M := M) fun y hy => h y (List.mem_cons_of_mem _ hy)
    have c : ((xs.length + 1 : Nat) : Int) * M = (xs.length : Int) * M + M := by
      rw [Int.natCast_add, Int.add_mul]
      simp
    rw [List.sum_cons, List.length_cons, c]
    omega
theorem bound_repr {P : List Shp} (hP : ShOk P) {U : List Ned} (hU : ∀ x ∈ U, NB x) (lU : U.length ≤ 24) : ∃ x, gReprA (.int (bndV P U)) = some (.str x) := by
  have b1 := sum_bd (M := 10000000) (xs := U.map (·.c)) fun x hx => by
    obtain ⟨y, hy, rfl⟩ := List.mem_map.mp hx
    have := (hU y hy).f
    omega
  have b2 := sum_bd (M := 1000000) (xs := (lsl P U).map fun p => rateP P p.1 p.2.toNat) fun x hx => by
    obtain ⟨p, hp, rfl⟩ := List.mem_map.mp hx
    obtain ⟨h1, _⟩ := lsl_mem hP hp
    obtain ⟨q, hq, e1⟩ := List.mem_map.mp h1
    rw [← e1, rateP_mem hP.n hq]
    unfold rt
    cases z : q.2[p.2.toNat]? with
    | none => exact ⟨Int.le_refl _, by decide⟩
    | some v => exact hP.v q hq v (List.mem_of_getElem? z)
  have l2 := lsl_len hP U
  rw [List.length_map] at b1 b2
  have l1 : (U.length : Int) * 10000000 ≤ 24 * 10000000 := Int.mul_le_mul_of_nonneg_right (by omega) (by decide)
  have l3 : ((lsl P U).length : Int) * 1000000 ≤ 72 * 1000000 := Int.mul_le_mul_of_nonneg_right (by omega) (by decide)
  have n1 : (bndV P U).natAbs < 10 ^ 12 := by unfold bndV; omega
  generalize bndV P U = v at *
  refine ⟨_, if_pos ?_⟩
  by_cases z : v.natAbs = 0
  · rw [z]; decide
  · have := (Nat.log2_lt z (k := 40)).mpr (Nat.lt_of_lt_of_le n1 (by decide))
    omega
theorem right_ok {P : List Shp} (hP : ShOk P) {T : List Ned} (hT : NeOk T) {ss : List PySem.Str} (hl : ss.length ≤ 100) (ht : ∀ s ∈ ss, Tx 9 s) (hs : ∀ s ∈ ss, (findN T s).isSome = true) {t : Tau} : ∃ t', d__law_right [.fr (shL P), .fr (neL T), .fr (.tup (ss.map DD.str))] (some t) = .ok (.bl true) (some t') ∧ TA t t' := by
  obtain ⟨x0, r0⟩ := all_repr hP hT hl ht
  have lc := lsome_lc (T := T) (ss := ss) (i := 5) (j := 2) (ρ := [some (.fr (shL P)), some (.fr (neL T)), some (.fr (.tup (ss.map DD.str))), some (.fr (.str x0)), none, none, none, none, none, none]) (τ := some t) (fun _ => rfl) (fun _ => rfl)
  have pm := pckN_perm hT hs
  obtain ⟨pb, pl⟩ := pckN_ok hT hs
  have sb : ∀ x ∈ some50 T ss, NB x := fun x hx => hT.nb (List.mem_filter.mp hx).1
  have sl : (some50 T ss).length ≤ 24 := Nat.le_trans (List.length_filter_le _ _) hT.l
  obtain ⟨t1, e1, a1⟩ := slots_ok hP hT hl hs (t := t)
  have e2 := lslots_ok hP sb (by omega) (τ := some t1)
  obtain ⟨t3, e3, a3⟩ := bound_ok hP hT hl hs (t := t1)
  have e4 := lbound_ok hP hT (ss := ss) (τ := some t3)
  obtain ⟨t5, e5, a5⟩ := slots_ok hP hT hl hs (t := t3)
  rw [lsl_congr pm] at e1 e5
  rw [bndV_congr pm] at e3
  obtain ⟨x1, r1⟩ := slots_repr hP (U := some50 T ss)
  obtain ⟨x2, r2⟩ := bound_repr hP sb sl
  have ll : ((lsl P (some50 T ss)).map slD).length ≤ 72 := by rw [List.length_map]; exact lsl_len hP _
  refine ⟨t5, ?_, (a1.trans a3).trans a5⟩
  have lT : (T.map neD).length ≤ 24 := by rw [List.length_map]; exact hT.l
  have lU : ((some50 T ss).map neD).length ≤ 24 := by rw [List.length_map]; exact sl
  generalize bndV P (some50 T ss) = BV at *
  generalize (lsl P (some50 T ss)).map slD = LS at *
  unfold neL at *
  generalize (some50 T ss).map neD = UU at *
  generalize T.map neD = TT at *
  generalize shL P = PP at *
  generalize ss.map DD.str = SS at *
  simp (disch := first | omega | (simp <;> omega) | fail) [if_pos, Np.pickL, pick1, List.filterMap, d__law_right, b__law_right, b__law_right_1, b__law_right_2, b__law_right_3, b__law_right_4, b__law_right_5, b__law_right_6, b__law_right_7, b__law_right_8, b__law_right_9, ev_body, startP, List.replicate, r0, lc, e1, e2, e3, e4, e5, r1, r2, ll]
theorem lcL_sub {α : Type} {t : Tg} {A : DT} {a : DE} {ρ : PEnv} {mk : α → DD} (I : Nat → TS' → Prop) : ∀ (xs : List α) (k : Nat) (τ : TS'), I k τ → (∀ x ∈ xs, ∀ j τ, j < k + xs.length → I j τ → ∃ ρ1 b τ', tgF t (mk x) ρ = some ρ1 ∧ A ρ1 τ = .ok b τ' ∧ I (j + 1) τ' ∧ a ρ1 τ' = .ok (mk x) τ') → ∃ (ys : List α) (τ' : TS'), lcL t A a ρ (xs.map mk) τ = .ok (ys.map mk) τ' ∧ ys.Sublist xs ∧ I (k + xs.length) τ'
  | [], k, τ, hI, _ => ⟨[], τ, rfl, .slnil, hI⟩
  | x :: xs, k, τ, hI, h => by
    obtain ⟨ρ1, b, τ1, h1, h2, h3, h6⟩ := h x List.mem_cons_self k τ (by rw [List.length_cons]; omega) hI
    obtain ⟨ys, τ2, h4, h5, h7⟩ := lcL_sub (t := t) (A := A) (a := a) (ρ := ρ) (mk := mk) I xs (k + 1) τ1 h3 fun y hy j τ hj => h y (List.mem_cons_of_mem _ hy) j τ (by rw [List.length_cons]; omega)
    rw [show k + 1 + xs.length = k + (x :: xs).length from by rw [List.length_cons]; omega] at h7
    cases b with
    | false =>
      refine ⟨ys, τ2, ?_, h5.cons x, h7⟩
      rw [List.map_cons, lcL, h1]
      simp only [h2, R.nox_ok, R.bind_ok, Bool.false_eq_true, if_false]
      exact h4
    | true =>
      refine ⟨x :: ys, τ2, ?_, h5.cons₂ x, h7⟩
      rw [List.map_cons, lcL, h1]
      simp only [h2, R.nox_ok, R.bind_ok, if_true, h6]
      rw [h4]
      rfl
theorem nms {n M : Nat} {t : Tau} (h : Tn n t) (hn : n < 2 ^ 40) (hM : M ≤ 26) : ∃ ns : List PySem.Str, ∃ t', d__law_names [.tape, .fr (.int (M : Int))] (some t) = .ok (.lst (ns.map DD.str)) (some t') ∧ ns.length = M ∧ (∀ s ∈ ns, Tx 9 s) ∧ ns.Nodup ∧ Tn (n + 100) t' := by
  obtain ⟨ps, t', e, l, h9, hc, T, nd⟩ := names_ok h hn hM
  refine ⟨ps.map S, t', by rw [List.map_map]; exact e, by rw [List.length_map, l], fun s hs => ?_, ?_, T⟩
  · obtain ⟨p, hp, rfl⟩ := List.mem_map.mp hs
    exact Tx.S (h9 p hp) (hc p hp)
  · exact List.pairwise_map.mpr (nd.imp fun h z => h (S_inj.mp z))
theorem str_at {ns : List PySem.Str} {k : Nat} (h : k < ns.length) : ∃ s, ns[k]? = some s ∧ atI (ns.map DD.str) (k : Int) = some (.str s) := by
  refine ⟨ns[k], List.getElem?_eq_getElem h, ?_⟩
  rw [atI_natE, List.getElem?_map, List.getElem?_eq_getElem h]
  rfl
theorem ne_strs {ss : List PySem.Str} (h : ∀ s ∈ ss, Tx 9 s) : gNeD (.lst (ss.map DD.str)) (.lst []) = some (.bl (!decide (ss = []))) := by
  cases ss with
  | nil => exact (gNeD_ints (ms := []) (ns := [])).trans rfl
  | cons r rs =>
    have hn : r :: rs ≠ [] := by simp
    obtain ⟨n, rb⟩ := rb_lst (k := 0) (ds := (r :: rs).map DD.str) fun d hd => by
      obtain ⟨s, hs, rfl⟩ := List.mem_map.mp hd
      exact rb_s (h s hs) _
    obtain ⟨m, q⟩ := rb_lst (k := 0) (ds := []) fun d hd => by cases hd
    haveI : Decidable (DD.lst ((r :: rs).map DD.str) = DD.lst []) := .isFalse fun z => hn (by simpa using DD.lst.inj z)
    have pl : plainD (.lst ((r :: rs).map DD.str)) = true := by rw [plainD]; exact plains_map fun x _ => by rw [plainD]
    rw [gNeD_eq rb q (by decide) (by decide) pl rfl, decide_eq_false (fun z => hn (by simpa using DD.lst.inj z)), decide_eq_false hn]
structure SI (called : List PySem.Str) (i : Nat) (P : List Shp) : Prop where
  n : P.map (·.1) = called.take i
  r : ∀ p ∈ P, p.2.length ≤ 12
  v : ∀ p ∈ P, ∀ x ∈ p.2, 0 ≤ x ∧ x ≤ 1000000
theorem shops_ok {n far : Nat} {t : Tau} (T0 : Tn n t) (hn : n < 2 ^ 39) (hf : 4 ≤ far ∧ far ≤ 500000) {called : List PySem.Str} (hc : called.length = 7) {m : Nat} (hm : m ≤ 6) {o1 o4 o6 : Option PV} :
    ∃ t' P q7 q8 q9, forL (.nm 7) b__law_shop_L1 (rangeD 0 m) [some .tape, o1, some (.fr (.int (far : Int))), some (.fr (.lst (called.map DD.str))), o4, some (.ow (.lst [])), o6, none, none, none, none, none, none, none, none] (some t) = .ok (.nx [some .tape, o1, some (.fr (.int (far : Int))), some (.fr (.lst (called.map DD.str))), o4, some (.ow (.lst (P.map shD))), o6, q7, q8, q9, none, none, none, none, none]) (some t') ∧ Tn (n + 300) t' ∧ SI called m P := by
  obtain ⟨ρ', τ', e, t', P, q7, q8, q9, rfl, rfl, T1, I⟩ := forL_inv (t := .nm 7) (δ := b__law_shop_L1) (ds := rangeD 0 m) (ρ := [some .tape, o1, some (.fr (.int (far : Int))), some (.fr (.lst (called.map DD.str))), o4, some (.ow (.lst [])), o6, none, none, none, none, none, none, none, none]) (τ := some t)
    (fun i ρ τ => ∃ t' P q7 q8 q9, τ = some t' ∧ ρ = [some .tape, o1, some (.fr (.int (far : Int))), some (.fr (.lst (called.map DD.str))), o4, some (.ow (.lst (P.map shD))), o6, q7, q8, q9, none, none, none, none, none] ∧ Tn (n + 40 * i) t' ∧ SI called i P)
    ⟨t, [], none, none, none, rfl, rfl, T0, rfl, fun p h => (nomatch h), fun p h => (nomatch h)⟩ (by
      rintro i d ρ τ hd ⟨t, P, q7, q8, q9, rfl, rfl, T, I⟩
      obtain ⟨hi, rfl⟩ := rangeD_get0 hd
      obtain ⟨r1, t1, e1, a1, b1, T1⟩ := draw_ok T (by omega) (m := 12) (by decide) (by decide)
      obtain ⟨r2, t2, e2, a2, b2, T2⟩ := draw_ok T1 (by omega) (m := 2) (by decide) (by decide)
      obtain ⟨mn, em, hm1⟩ : ∃ mn : Nat, atI [DD.int (1 + r1), .int 12] r2 = some (.int (mn : Int)) ∧ 1 ≤ mn ∧ mn ≤ 12 := by
        obtain ⟨j, rfl⟩ := Int.eq_ofNat_of_zero_le a1
        have : r2 = 0 ∨ r2 = 1 := by omega
        rcases this with rfl | rfl
        · exact ⟨1 + j, by show some (DD.int (1 + (j : Int))) = some (DD.int ((1 + j : Nat) : Int)); simp, by omega, by omega⟩
        · exact ⟨12, rfl, by decide, by decide⟩
      obtain ⟨s, hs, as⟩ := str_at (ns := called) (k := i) (by omega)
      have cd : ∀ x, CDiv x 2 := fun x => ⟨by decide, by decide⟩
      obtain ⟨ys, τ5, e5, ly, py, t5, rfl, T5⟩ := lcL_draw (t := .nm 10) (a := dOp gIxL (dLst (dCons (dC (.int 0)) (dCons (dCallN 2 d__law_draw [] (dpCons (dpT 0) (dpCons (dpE (dOp gAdd (dV 2) (dC (.int 1)))) dpNil))) (dCons (dV 2) dNil)))) (dOp gFdiv (dCallN 2 d__law_draw [] (dpCons (dpT 0) (dpCons (dpE (dC (.int 5))) dpNil))) (dC (.int 2)))) (ρ := [some .tape, o1, some (.fr (.int (far : Int))), some (.fr (.lst (called.map DD.str))), o4, some (.ow (.lst (P.map shD))), o6, some (.fr (.int (i : Int))), some (.fr (.int (mn : Int))), q9, none, none, none, none, none])
        (fun y => ∃ v, y = .int v ∧ (0 ≤ v ∧ v ≤ 1000000)) (fun k τ => ∃ t, τ = some t ∧ Tn (n + 40 * i + 2 + 2 * k) t) (rangeD 0 mn) 0 (some t2) ⟨t2, rfl, T2.mono (by omega)⟩ (by
          rintro j d τ hj hd ⟨t, rfl, T⟩
          rw [rangeD_len] at hj
          obtain ⟨r3, t3, e3, a3, b3, T3⟩ := draw_ok T (by omega) (m := (far : Int) + 1) (by omega) (by omega)
          obtain ⟨r4, t4, e4, a4, b4, T4⟩ := draw_ok T3 (by omega) (m := 5) (by decide) (by decide)
          obtain ⟨v, ev, hv⟩ : ∃ v, atI [DD.int 0, .int r3, .int (far : Int)] (r4 / 2) = some (.int v) ∧ (0 ≤ v ∧ v ≤ 1000000) := by
            have : r4 / 2 = 0 ∨ r4 / 2 = 1 ∨ r4 / 2 = 2 := by omega
            rcases this with z | z | z <;> rw [z]
            · exact ⟨0, rfl, by decide, by decide⟩
            · exact ⟨r3, rfl, by omega, by omega⟩
            · exact ⟨far, rfl, by omega, by omega⟩
          refine ⟨_, tgF_nm, .int v, some t4, ?_, ⟨v, rfl, hv⟩, t4, rfl, T4.mono (by omega)⟩
          generalize called.map DD.str = CC at *
          generalize P.map shD = PP at *
          simp (disch := first | omega | (simp <;> omega) | fail) [if_pos, e3, e4, cd, ev])
      obtain ⟨rs, rfl, hr⟩ := all_ints py
      rw [List.length_map, rangeD_len] at ly
      rw [rangeD_len, Nat.zero_add] at T5
      have rg : rgOk 0 (mn : Int) := by unfold rgOk; omega
      refine ⟨_, tgF_nm, _, _, .inl ?_, t5, P ++ [(s, rs)], some (.fr (.int (i : Int))), some (.fr (.int (mn : Int))), some (.fr (.lst (rs.map DD.int))), rfl, rfl, T5.mono (by omega), ?_, ?_, ?_⟩
      · rw [List.map_append]
        show _ = R.ok (Ct.nx [_, _, _, _, _, some (PV.ow (.lst (_ ++ [DD.tup [.str s, .tup (rs.map DD.int)]]))), _, _, _, _, _, _, _, _, _]) _
        have lP : (P.map shD).length ≤ 6 := by
          have := congrArg List.length I.n
          rw [List.length_map, List.length_take] at this
          rw [List.length_map]
          omega
        have lr : (rs.map DD.int).length ≤ 12 := by rw [List.length_map]; omega
        generalize rs.map DD.int = RS at *
        generalize called.map DD.str = CC at *
        generalize P.map shD = PP at *
        simp (disch := first | omega | (simp <;> omega) | fail) [if_pos, b__law_shop_L1, b__law_shop_L1_1, b__law_shop_L1_2, e1, e2, em, rg, e5, as]
      · rw [List.map_append, I.n, List.take_add_one, hs]
        rfl
      · intro p hp
        rcases List.mem_append.mp hp with hp | hp
        · exact I.r p hp
        · rw [List.mem_singleton.mp hp]
          show rs.length ≤ 12
          omega
      · intro p hp x hx
        rcases List.mem_append.mp hp with hp | hp
        · exact I.v p hp x hx
        · rw [List.mem_singleton.mp hp] at hx
          exact hr x hx)
  rw [rangeD_len] at T1 I
  exact ⟨t', P, q7, q8, q9, e, T1.mono (by omega), I⟩
def barD : DS := (dIfS (dAnd (dBorT 13 (dTest (dOp gNeD (dV 13) (dLst dNil)))) (dTest (dOp (gEq false) (dCallN 2 d__law_draw [] (dpCons (dpT 0) (dpCons (dpE (dC (.int 4))) dpNil))) (dC (.int 0))))) (dApp 13 (dBor 13 (dOp gIxL (dV 13) (dC (.int 0))))) dNx)
theorem bar3 : b__law_shop_L2_3 = dSeq barD b__law_shop_L2_4 := rfl
structure TI (own : List PySem.Str) (i : Nat) (T : List Ned) : Prop where
  n : T.map (·.n) = own.take i
  b : ∀ x ∈ T, NB x
theorem tasks_ok {n far : Nat} {t : Tau} (T0 : Tn n t) (hn : n < 2 ^ 39) (hf : 4 ≤ far ∧ far ≤ 500000) {called own : List PySem.Str} (hc : called.length = 7) (tc : ∀ s ∈ called, Tx 9 s) (ho : own.length = 24) (to : ∀ s ∈ own, Tx 9 s) {m : Nat} (hm : m ≤ 24) {o1 o5 o7 o8 o9 : Option PV} :
    ∃ t' T q7 q11 q12 q13, forL (.nm 7) b__law_shop_L2 (rangeD 0 m) [some .tape, o1, some (.fr (.int (far : Int))), some (.fr (.lst (called.map DD.str))), some (.fr (.lst (own.map DD.str))), o5, some (.ow (.lst [])), o7, o8, o9, none, none, none, none, none] (some t) = .ok (.nx [some .tape, o1, some (.fr (.int (far : Int))), some (.fr (.lst (called.map DD.str))), some (.fr (.lst (own.map DD.str))), o5, some (.ow (.lst (T.map neD))), q7, o8, o9, none, q11, q12, q13, none]) (some t') ∧ Tn (n + 500) t' ∧ TI own m T := by
  obtain ⟨ρ', τ', e, t', T, q7, q11, q12, q13, rfl, rfl, T1, I⟩ := forL_inv (t := .nm 7) (δ := b__law_shop_L2) (ds := rangeD 0 m) (ρ := [some .tape, o1, some (.fr (.int (far : Int))), some (.fr (.lst (called.map DD.str))), some (.fr (.lst (own.map DD.str))), o5, some (.ow (.lst [])), o7, o8, o9, none, none, none, none, none]) (τ := some t)
    (fun i ρ τ => ∃ t' T q7 q11 q12 q13, τ = some t' ∧ ρ = [some .tape, o1, some (.fr (.int (far : Int))), some (.fr (.lst (called.map DD.str))), some (.fr (.lst (own.map DD.str))), o5, some (.ow (.lst (T.map neD))), q7, o8, o9, none, q11, q12, q13, none] ∧ Tn (n + 20 * i) t' ∧ TI own i T)
    ⟨t, [], o7, none, none, none, rfl, rfl, T0, rfl, fun p h => (nomatch h)⟩ (by
      rintro i d ρ τ hd ⟨t, T, q7, q11, q12, q13, rfl, rfl, Tt, I⟩
      obtain ⟨hi, rfl⟩ := rangeD_get0 hd
      obtain ⟨f, t1, e1, a1, b1, T1⟩ := draw_ok Tt (by omega) (m := 12) (by decide) (by decide)
      obtain ⟨r2, t2, e2, a2, b2, T2⟩ := draw_ok T1 (by omega) (m := 2) (by decide) (by decide)
      obtain ⟨bd, em, hb⟩ : ∃ bd : Int, atI [DD.int (if 12 - f < 3 then 12 - f else 3), .int (12 - f)] r2 = some (.int bd) ∧ 1 ≤ bd ∧ bd ≤ 12 := by
        have : r2 = 0 ∨ r2 = 1 := by omega
        rcases this with rfl | rfl
        · exact ⟨_, rfl, by split <;> omega, by split <;> omega⟩
        · exact ⟨_, rfl, by omega, by omega⟩
      obtain ⟨r3, t3, e3, a3, b3, T3⟩ := draw_ok T2 (by omega) (m := bd) (by omega) (by omega)
      obtain ⟨s, hs, as⟩ := str_at (ns := own) (k := i) (by omega)
      have ts : Tx 9 s := to s (List.mem_of_getElem? hs)
      obtain ⟨bs, τ4, e4, sub, t4, rfl, T4⟩ := lcL_sub (t := .nm 14) (A := dTest (dOp (gEq false) (dCallN 2 d__law_draw [] (dpCons (dpT 0) (dpCons (dpE (dC (.int 5))) dpNil))) (dC (.int 0)))) (a := dV 14) (ρ := [some .tape, o1, some (.fr (.int (far : Int))), some (.fr (.lst (called.map DD.str))), some (.fr (.lst (own.map DD.str))), o5, some (.ow (.lst (T.map neD))), some (.fr (.int (i : Int))), o8, o9, none, some (.fr (.int f)), some (.fr (.int (f + 1 + r3))), q13, none]) (mk := DD.str)
        (fun k τ => ∃ t, τ = some t ∧ Tn (n + 20 * i + 3 + k) t) called 0 (some t3) ⟨t3, rfl, T3.mono (by omega)⟩ (by
          rintro x hx j τ hj ⟨t, rfl, Tj⟩
          obtain ⟨r4, t4, e4, a4, b4, T4⟩ := draw_ok Tj (by omega) (m := 5) (by decide) (by decide)
          refine ⟨_, decide (r4 = 0), some t4, tgF_nm, ?_, ⟨t4, rfl, T4⟩, ?_⟩
          · generalize called.map DD.str = CC at *
            generalize own.map DD.str = OO at *
            generalize T.map neD = TT at *
            by_cases z : r4 = 0
            · subst z
              simp (disch := first | omega | (simp <;> omega) | fail) [if_pos, e4]
            · simp (disch := first | omega | (simp <;> omega) | fail) [if_pos, e4, z]
          · generalize called.map DD.str = CC at *
            generalize own.map DD.str = OO at *
            generalize T.map neD = TT at *
            simp (disch := first | omega | (simp <;> omega) | fail) [if_pos, ])
      rw [hc, Nat.zero_add] at T4
      have bt : ∀ x ∈ bs, Tx 9 x := fun x hx => tc x (sub.subset hx)
      have bl : bs.length ≤ 7 := by have := sub.length_le; omega
      have nn := ne_strs bt
      have lc7 : (called.map DD.str).length = 7 := by rw [List.length_map, hc]
      have lT : (T.map neD).length ≤ 24 := by
        have := congrArg List.length I.n
        rw [List.length_map, List.length_take] at this
        rw [List.length_map]
        omega
      -- the bars that stay
      have two : ∃ (cs : List PySem.Str) (t5 : Tau), (∀ x ∈ cs, Tx 9 x) ∧ cs.length ≤ 8 ∧ Tn (n + 20 * i + 11) t5 ∧ ∀ ρ0 : PEnv, ρ0 = [some .tape, o1, some (.fr (.int (far : Int))), some (.fr (.lst (called.map DD.str))), some (.fr (.lst (own.map DD.str))), o5, some (.ow (.lst (T.map neD))), some (.fr (.int (i : Int))), o8, o9, none, some (.fr (.int f)), some (.fr (.int (f + 1 + r3)))] →
          barD (ρ0 ++ [some (.ow (.lst (bs.map DD.str))), none]) (some t4) = .ok (.nx (ρ0 ++ [some (.ow (.lst (cs.map DD.str))), none])) (some t5) := by
        cases bs with
        | nil =>
          refine ⟨[], t4, bt, by simp, T4.mono (by omega), fun ρ0 h0 => ?_⟩
          rw [h0]
          simp only [List.map_nil, decide_true, Bool.not_true] at nn ⊢
          generalize called.map DD.str = CC at *
          generalize own.map DD.str = OO at *
          generalize T.map neD = TT at *
          simp (disch := first | omega | (simp <;> omega) | fail) [if_pos, barD, nn]
        | cons b bs =>
          obtain ⟨r5, t5, e5, a5, b5, T5⟩ := draw_ok T4 (by omega) (m := 4) (by decide) (by decide)
          have nn : gNeD (.lst (DD.str b :: bs.map DD.str)) (.lst []) = some (.bl true) := by
            rw [List.map_cons] at nn
            rw [nn]
            rfl
          have a0 : atI (DD.str b :: bs.map DD.str) 0 = some (.str b) := atI_0
          have l2 : (bs.map DD.str).length ≤ 7 := by rw [List.length_map]; simp at bl; omega
          by_cases z : r5 = 0
          · subst z
            refine ⟨b :: bs ++ [b], t5, fun x hx => ?_, by simp at bl ⊢; omega, T5.mono (by omega), fun ρ0 h0 => ?_⟩
            · rcases List.mem_append.mp hx with hx | hx
              · exact bt x hx
              · rw [List.mem_singleton.mp hx]
                exact bt b List.mem_cons_self
            · rw [h0, List.map_append, List.map_cons, List.map_cons, List.map_nil]
              generalize called.map DD.str = CC at *
              generalize own.map DD.str = OO at *
              generalize T.map neD = TT at *
              generalize bs.map DD.str = BB at *
              simp (disch := first | omega | (simp <;> omega) | fail) [if_pos, barD, nn, e5, a0]
          · refine ⟨b :: bs, t5, bt, by omega, T5.mono (by omega), fun ρ0 h0 => ?_⟩
            rw [h0, List.map_cons]
            generalize called.map DD.str = CC at *
            generalize own.map DD.str = OO at *
            generalize T.map neD = TT at *
            generalize bs.map DD.str = BB at *
            simp (disch := first | omega | (simp <;> omega) | fail) [if_pos, barD, nn, e5, z]
      obtain ⟨cs, t5, ct, cl, T5, two⟩ := two
      have two := two _ rfl
      obtain ⟨r6, t6, e6, a6, b6, T6⟩ := draw_ok T5 (by omega) (m := 2 * (far : Int)) (by omega) (by omega)
      have cm : CMul 2 (far : Int) := .inl ⟨by decide, by decide⟩
      refine ⟨_, tgF_nm, _, _, .inl ?_, t6, T ++ [⟨s, f, f + 1 + r3, 1 + r6, cs⟩], some (.fr (.int (i : Int))), some (.fr (.int f)), some (.fr (.int (f + 1 + r3))), some (.fr (.lst (cs.map DD.str))), rfl, rfl, T6.mono (by omega), ?_, ?_⟩
      · rw [List.map_append]
        show _ = R.ok (Ct.nx [_, _, _, _, _, _, some (PV.ow (.lst (_ ++ [DD.tup [.str s, .int f, .int (f + 1 + r3), .int (1 + r6), .tup (cs.map DD.str)]]))), _, _, _, _, _, _, _, _]) _
        have lB : (bs.map DD.str).length ≤ 7 := by rw [List.length_map]; exact bl
        have lC : (cs.map DD.str).length ≤ 8 := by rw [List.length_map]; exact cl
        simp only [List.cons_append, List.nil_append] at two
        generalize cs.map DD.str = CS at *
        generalize bs.map DD.str = BS at *
        generalize called.map DD.str = CC at *
        generalize own.map DD.str = OO at *
        generalize T.map neD = TT at *
        simp (disch := first | omega | (simp <;> omega) | fail) [if_pos, b__law_shop_L2, b__law_shop_L2_1, b__law_shop_L2_2, bar3, b__law_shop_L2_4, e1, e2, em, e3, lc7, e4, two, as, e6, cm]
      · rw [List.map_append, I.n, List.take_add_one, hs]
        rfl
      · intro x hx
        rcases List.mem_append.mp hx with hx | hx
        · exact I.b x hx
        · rw [List.mem_singleton.mp hx]
          exact ⟨ts, by show (0 ≤ f ∧ f ≤ 12) ∧ (0 ≤ f + 1 + r3 ∧ f + 1 + r3 ≤ 40) ∧ 0 ≤ 1 + r6 ∧ 1 + r6 ≤ 10000000; omega, by show cs.length ≤ 10; omega, ct⟩)
  rw [rangeD_len] at T1 I
  exact ⟨t', T, q7, q11, q12, q13, e, T1.mono (by omega), I⟩
theorem shop_ok {n far : Nat} {t : Tau} (T0 : Tn n t) (hn : n < 2 ^ 38) (hf : 4 ≤ far ∧ far ≤ 500000) : ∃ t' P T, d__law_shop [.tape, .fr (.tup [.int 6, .int 24]), .fr (.int (far : Int))] (some t) = .ok (.tup [shL P, neL T]) (some t') ∧ Tn (n + 2000) t' ∧ ShOk P ∧ NeOk T := by
  obtain ⟨called, t1, e1, c1, c2, c3, T1⟩ := nms T0 (by omega) (M := 7) (by decide)
  obtain ⟨own, t2, e2, d1, d2, d3, T2⟩ := nms T1 (by omega) (M := 24) (by decide)
  have e1 : d__law_names [.tape, .fr (.int 7)] (some t) = .ok (.lst (called.map DD.str)) (some t1) := e1
  have e2 : d__law_names [.tape, .fr (.int 24)] (some t1) = .ok (.lst (own.map DD.str)) (some t2) := e2
  obtain ⟨r3, t3, e3, a3, b3, T3⟩ := draw_ok T2 (by omega) (m := 6 + 1) (by decide) (by decide)
  obtain ⟨m1, rfl⟩ := Int.eq_ofNat_of_zero_le a3
  obtain ⟨t4, P, q7, q8, q9, e4, T4, I⟩ := shops_ok T3 (by omega) hf c1 (m := m1) (by omega) (o1 := some (.fr (.tup [.int 6, .int 24]))) (o4 := some (.fr (.lst (own.map DD.str)))) (o6 := some (.ow (.lst [])))
  obtain ⟨r5, t5, e5, a5, b5, T5⟩ := draw_ok T4 (by omega) (m := 24 + 1) (by decide) (by decide)
  obtain ⟨m2, rfl⟩ := Int.eq_ofNat_of_zero_le a5
  obtain ⟨t6, T, p7, p11, p12, p13, e6, T6, J⟩ := tasks_ok T5 (by omega) hf c1 c2 d1 d2 (m := m2) (by omega) (o1 := some (.fr (.tup [.int 6, .int 24]))) (o5 := some (.ow (.lst (P.map shD)))) (o7 := q7) (o8 := q8) (o9 := q9)
  refine ⟨t6, P, T, ?_, T6.mono (by omega), ?_, ?_⟩
  · have g1 : rgOk 0 (m1 : Int) := by unfold rgOk; omega
    have g2 : rgOk 0 (m2 : Int) := by unfold rgOk; omega
    have i0 : atI [DD.int 6, .int 24] 0 = some (.int 6) := rfl
    have i1 : atI [DD.int 6, .int 24] 1 = some (.int 24) := rfl
    have lP : (P.map shD).length ≤ 6 := by
      have := congrArg List.length I.n
      rw [List.length_map, List.length_take] at this
      rw [List.length_map]
      omega
    have lT : (T.map neD).length ≤ 24 := by
      have := congrArg List.length J.n
      rw [List.length_map, List.length_take] at this
      rw [List.length_map]
      omega
    have e3 : d__law_draw [.tape, .fr (.int 7)] (some t2) = .ok (.int (m1 : Int)) (some t3) := e3
    have e5 : d__law_draw [.tape, .fr (.int 25)] (some t4) = .ok (.int (m2 : Int)) (some t5) := e5
    unfold shL neL
    generalize called.map DD.str = CC at *
    generalize own.map DD.str = OO at *
    generalize P.map shD = PP at *
    generalize T.map neD = TT at *
    simp (disch := first | omega | (simp <;> omega) | fail) [if_pos, d__law_shop, b__law_shop, b__law_shop_1, b__law_shop_2, b__law_shop_3, b__law_shop_4, ev_body, startP, List.replicate, e1, e2, i0, i1, e3, g1, e4, e5, g2, e6]
  · have ln := congrArg List.length I.n
    rw [List.length_map, List.length_take] at ln
    refine ⟨by omega, by rw [I.n]; exact c3.sublist (List.take_sublist _ _), fun p hp => ?_, I.r, I.v⟩
    have : p.1 ∈ called.take m1 := by rw [← I.n]; exact List.mem_map.mpr ⟨p, hp, rfl⟩
    exact c2 _ (List.mem_of_mem_take this)
  · have ln := congrArg List.length J.n
    rw [List.length_map, List.length_take] at ln
    exact ⟨by omega, by rw [J.n]; exact d3.sublist (List.take_sublist _ _), fun x hx => (J.b x hx).t, fun x hx => (J.b x hx).f, fun x hx => (J.b x hx).b⟩
theorem perm_sub {α : Type} : ∀ {l R : List α}, l.Nodup → (∀ p ∈ l, p ∈ R) → ∃ R', R.Perm (l ++ R')
  | [], R, _, _ => ⟨R, .refl _⟩
  | a :: l, R, h, m => by
    obtain ⟨R1, R2, rfl⟩ := List.append_of_mem (m a List.mem_cons_self)
    have hc := List.nodup_cons.mp h
    obtain ⟨R', p⟩ := perm_sub (l := l) (R := R1 ++ R2) hc.2 fun q hq => by
      have := m q (List.mem_cons_of_mem _ hq)
      simp only [List.mem_append, List.mem_cons] at this ⊢
      rcases this with z | z | z
      · exact .inl z
      · exact (hc.1 (by rw [← z]; exact hq)).elim
      · exact .inr z
    exact ⟨R', List.perm_middle.trans (p.cons a)⟩
theorem flt2 {α : Type} (p : α → Bool) : ∀ l : List α, l.length = (l.filter p).length + (l.filter fun x => !p x).length
  | [] => rfl
  | a :: l => by
    have ih := flt2 p l
    cases h : p a with
    | true => rw [List.filter_cons_of_pos h, List.filter_cons_of_neg (by rw [h]; decide), List.length_cons, List.length_cons]; omega
    | false => rw [List.filter_cons_of_neg (by rw [h]; decide), List.filter_cons_of_pos (by rw [h]; rfl), List.length_cons, List.length_cons]; omega
theorem out_len {ns es : List PySem.Str} (nd : ns.Nodup) : ns.length ≤ (ns.filter fun s => !decide (s ∈ es)).length + es.length := by
  have h := flt2 (fun s => !decide (s ∈ es)) ns
  have e : (ns.filter fun s => !(!decide (s ∈ es))) = ns.filter fun s => decide (s ∈ es) := by
    congr 1
    funext s
    simp
  rw [e] at h
  have nf : (ns.filter fun s => decide (s ∈ es)).Nodup := nd.sublist List.filter_sublist
  obtain ⟨R, p⟩ := perm_sub nf (R := es) fun s hs => of_decide_eq_true (List.mem_filter.mp hs).2
  have := p.length_eq
  rw [List.length_append] at this
  omega
theorem mem_some {T : List Ned} {a b : List PySem.Str} (h : ∀ s, s ∈ a ↔ s ∈ b) : some50 T a = some50 T b := by
  unfold some50
  refine List.filter_congr fun x _ => ?_
  rw [decide_eq_decide]
  exact h _
theorem gInF_lst {neg : Bool} {i : PySem.Str} {ns : List PySem.Str} : gInF neg (.str i) (.lst (ns.map DD.str)) = some (.bl (if neg = true then !decide (i ∈ ns) else decide (i ∈ ns))) := (show gInF neg (.str i) (.lst (ns.map DD.str)) = gInF neg (.str i) (.tup (ns.map DD.str)) from rfl).trans gInF_tux
structure CO (T : List Ned) (ss : List PySem.Str) : Prop where
  l : ss.length ≤ 60
  t : ∀ s ∈ ss, Tx 9 s
  f : ∀ s ∈ ss, (findN T s).isSome = true
theorem CO.sub {T : List Ned} {ss rs : List PySem.Str} (h : CO T ss) (hl : rs.length ≤ 60) (hm : ∀ s ∈ rs, s ∈ ss) : CO T rs := ⟨hl, fun s hs => h.t s (hm s hs), fun s hs => h.f s (hm s hs)⟩
theorem co_all {T : List Ned} (hT : NeOk T) : CO T (T.map (·.n)) := by
  refine ⟨by rw [List.length_map]; have := hT.l; omega, fun s hs => ?_, fun s hs => findN_ex hs⟩
  obtain ⟨x, hx, rfl⟩ := List.mem_map.mp hs
  exact hT.t x hx
theorem rights {P : List Shp} (hP : ShOk P) {T : List Ned} (hT : NeOk T) {o0 o1 o2 o5 o6 o7 o8 o9 o10 o12 o13 o14 : Option PV} : ∀ (Ls : List (List PySem.Str)) (t : Tau) (o11 : Option PV), (∀ ss ∈ Ls, CO T ss) →
    ∃ t' q11, forL (.nm 11) b_law_L2 (Ls.map fun ss => DD.tup (ss.map DD.str)) [o0, o1, o2, some (.fr (shL P)), some (.fr (neL T)), o5, o6, o7, o8, o9, o10, o11, o12, o13, o14] (some t) = .ok (.nx [o0, o1, o2, some (.fr (shL P)), some (.fr (neL T)), o5, o6, o7, o8, o9, o10, q11, o12, o13, o14]) (some t') ∧ TA t t'
  | [], t, o11, _ => ⟨t, o11, rfl, TA.refl t⟩
  | ss :: Ls, t, o11, h => by
    have c := h ss List.mem_cons_self
    obtain ⟨t1, e1, a1⟩ := right_ok hP hT (by have := c.l; omega) c.t c.f (t := t)
    obtain ⟨t2, q11, e2, a2⟩ := rights hP hT (o0 := o0) (o1 := o1) (o2 := o2) (o5 := o5) (o6 := o6) (o7 := o7) (o8 := o8) (o9 := o9) (o10 := o10) (o12 := o12) (o13 := o13) (o14 := o14) Ls t1 (some (.fr (.tup (ss.map DD.str)))) fun x hx => h x (List.mem_cons_of_mem _ hx)
    refine ⟨t2, q11, ?_, a1.trans a2⟩
    rw [List.map_cons, forL_cons tgF_nm]
    have st : b_law_L2 [o0, o1, o2, some (.fr (shL P)), some (.fr (neL T)), o5, o6, o7, o8, o9, o10, some (.fr (.tup (ss.map DD.str))), o12, o13, o14] (some t) = .ok (.nx [o0, o1, o2, some (.fr (shL P)), some (.fr (neL T)), o5, o6, o7, o8, o9, o10, some (.fr (.tup (ss.map DD.str))), o12, o13, o14]) (some t1) := by
      generalize shL P = PP at *
      generalize neL T = TT at *
      generalize ss.map DD.str = SS at *
      simp (disch := first | omega | (simp <;> omega) | fail) [if_pos, b_law_L2, e1]
    show eTurn (b_law_L2 [o0, o1, o2, some (.fr (shL P)), some (.fr (neL T)), o5, o6, o7, o8, o9, o10, some (.fr (.tup (ss.map DD.str))), o12, o13, o14] (some t)) _ _ _ = _
    rw [st]
    exact e2
theorem ne_ref {s : PySem.Str} (h : Tx 9 s) : gNeD (refT s) (refT s) = some (.bl false) := by
  have h2 : Tx 12 (S [110, 111, 32] ++ s) := by
    have h0 : Tx 3 (S [110, 111, 32]) := Tx.S (by decide) (by unfold Cp; decide)
    rw [S_of s] at h ⊢
    obtain ⟨a, b⟩ := h.of
    rw [S_cat]
    exact Tx.S (by simp; omega) (Cp.app h0.of.2 b)
  have r : ∃ n, Rb n 1 (refT s) := rb_tup fun d hd => by
    simp only [List.mem_cons, List.not_mem_nil, or_false] at hd
    rcases hd with rfl | rfl | rfl
    · exact ⟨_, Rb.str (Tx.lit (n := 7) "unknown" (by decide +kernel))⟩
    · exact ⟨_, Rb.str h⟩
    · exact ⟨_, Rb.str h2⟩
  obtain ⟨n, r⟩ := r
  haveI : Decidable (refT s = refT s) := .isTrue rfl
  rw [gNeD_eq r r (by decide) (by decide) (by unfold refT; simp [plainD, plainDs]) (by unfold refT; simp [plainD, plainDs])]
  rw [decide_eq_true rfl]
  rfl
theorem refs {P : List Shp} {T : List Ned} (hT : NeOk T) {l r : List PySem.Str} {s s1 : PySem.Str} (ts : Tx 9 s) (hl : l.length + r.length ≤ 100) (hs : ∀ x ∈ l, (findN T x).isSome = true) (hn : findN T s = none) {o0 o1 o2 o5 o6 o7 o8 o10 o11 o12 : Option PV} {o14 : Option PV} {t : Tau} :
    ∃ t' q14, forL (.nm 14) b_law_L3 (rangeD 0 2) [o0, o1, o2, some (.fr (shL P)), some (.fr (neL T)), o5, o6, o7, o8, some (.fr (.lst [.str s, .str s1])), o10, o11, o12, some (.fr (.tup ((l ++ s :: r).map DD.str))), o14] (some t) = .ok (.nx [o0, o1, o2, some (.fr (shL P)), some (.fr (neL T)), o5, o6, o7, o8, some (.fr (.lst [.str s, .str s1])), o10, o11, o12, some (.fr (.tup ((l ++ s :: r).map DD.str))), q14]) (some t') ∧ TA t t' := by
  obtain ⟨ρ', τ', e, t', q14, rfl, rfl, a⟩ := forL_inv (t := .nm 14) (δ := b_law_L3) (ds := rangeD 0 2) (ρ := [o0, o1, o2, some (.fr (shL P)), some (.fr (neL T)), o5, o6, o7, o8, some (.fr (.lst [.str s, .str s1])), o10, o11, o12, some (.fr (.tup ((l ++ s :: r).map DD.str))), o14]) (τ := some t)
    (fun i ρ τ => ∃ t' q14, τ = some t' ∧ ρ = [o0, o1, o2, some (.fr (shL P)), some (.fr (neL T)), o5, o6, o7, o8, some (.fr (.lst [.str s, .str s1])), o10, o11, o12, some (.fr (.tup ((l ++ s :: r).map DD.str))), q14] ∧ TA t t')
    ⟨t, o14, rfl, rfl, TA.refl t⟩ (by
      rintro i d ρ τ hd ⟨t0, q14, rfl, rfl, a0⟩
      obtain ⟨hi, rfl⟩ := rangeD_get0 hd
      obtain ⟨t1, e1, a1⟩ := refused_ok (P := P) hT ts hl hs hn (w := i) hi (t := t0)
      have ne := ne_ref ts
      have i0 : atI [DD.str s, .str s1] 0 = some (.str s) := rfl
      have ln := ts.len
      have l3 : (S [110, 111, 32]).length = 3 := by decide +kernel
      refine ⟨_, tgF_nm, _, _, .inl ?_, t1, some (.fr (.int (i : Int))), rfl, rfl, a0.trans a1⟩
      unfold refT at ne e1
      generalize shL P = PP at *
      generalize neL T = TT at *
      generalize (l ++ s :: r).map DD.str = SS at *
      simp (disch := first | omega | (simp <;> omega) | fail) [if_pos, b_law_L3, e1, i0, lit_no, l3, ne])
  exact ⟨t', q14, e, a⟩
theorem bout_ok {N : Nat} {t : Tau} (Tt : Tn N t) (hN : N < 2 ^ 37) {x0 o2 o3 o4 o5 o6 o7 o8 o9 o10 o11 o12 o13 o14 : Option PV} :
    ∃ t' q3 q4 q5 q7 q9 q10 q11 q12 q13 q14, b_law_L1 [x0, some .tape, o2, o3, o4, o5, o6, o7, o8, o9, o10, o11, o12, o13, o14] (some t) = .ok (.nx [x0, some .tape, o2, q3, q4, q5, o6, q7, o8, q9, q10, q11, q12, q13, q14]) (some t') ∧ Tn (N + 5000) t' := by
  obtain ⟨r1, t1, e1, a1, b1, T1⟩ := draw_ok Tt (by omega) (m := 3) (by decide) (by decide)
  obtain ⟨far, ef, hf⟩ : ∃ far : Nat, atI [DD.int 4, .int 40, .int 500000] r1 = some (.int (far : Int)) ∧ 4 ≤ far ∧ far ≤ 500000 := by
    have : r1 = 0 ∨ r1 = 1 ∨ r1 = 2 := by omega
    rcases this with rfl | rfl | rfl
    · exact ⟨4, rfl, by decide, by decide⟩
    · exact ⟨40, rfl, by decide, by decide⟩
    · exact ⟨500000, rfl, by decide, by decide⟩
  obtain ⟨t2, P, T, e2, T2, hP, hT⟩ := shop_ok T1 (by omega) hf
  have lT : (T.map neD).length ≤ 24 := by rw [List.length_map]; exact hT.l
  have cA := co_all hT
  have lE : (T.map (·.n)).length ≤ 24 := by rw [List.length_map]; exact hT.l
  have lcE : ∀ p3 p4 p5 p7 p8 p9 p10 p11 p12 p13 p14, lcL (.nm 6) dYes (dOp gIxT (dV 6) (dC (.int 0))) [x0, some .tape, o2, p3, p4, p5, none, p7, p8, p9, p10, p11, p12, p13, p14] (T.map neD) (some t2) = .ok ((T.map (·.n)).map DD.str) (some t2) := fun p3 p4 p5 p7 p8 p9 p10 p11 p12 p13 p14 => by
    rw [List.map_map]
    refine lcL_mapOf fun n hn => ⟨_, tgF_nm, ?_⟩
    have a0 : atI [DD.str n.n, .int n.f, .int n.d, .int n.c, .tup (n.b.map DD.str)] 0 = some (.str n.n) := rfl
    show _ = R.ok (DD.str n.n) _
    unfold neD
    generalize n.b.map DD.str = BB at *
    simp (disch := first | omega | (simp <;> omega) | fail) [if_pos, a0]
  generalize hE : T.map (·.n) = ev at *
  -- some of the names
  obtain ⟨ss, τ3, e3, sub, t3, rfl, T3⟩ := lcL_sub (t := .nm 8) (A := dTest (dOp (gEq false) (dCallN 2 d__law_draw [] (dpCons (dpT 1) (dpCons (dpE (dC (.int 2))) dpNil))) (dC (.int 0)))) (a := dV 8) (ρ := [x0, some .tape, o2, some (.fr (shL P)), some (.fr (neL T)), some (.fr (.lst (ev.map DD.str))), o6, o7, none, o9, o10, o11, o12, o13, o14]) (mk := DD.str)
    (fun k τ => ∃ t, τ = some t ∧ Tn (N + 1 + 2000 + k) t) ev 0 (some t2) ⟨t2, rfl, T2⟩ (by
      rintro x hx j τ hj ⟨t, rfl, Tj⟩
      obtain ⟨r4, t4, e4, a4, b4, T4⟩ := draw_ok Tj (by omega) (m := 2) (by decide) (by decide)
      refine ⟨_, decide (r4 = 0), some t4, tgF_nm, ?_, ⟨t4, rfl, T4⟩, ?_⟩
      · generalize shL P = PP at *
        generalize neL T = TT at *
        generalize ev.map DD.str = EE at *
        by_cases z : r4 = 0
        · subst z
          simp (disch := first | omega | (simp <;> omega) | fail) [if_pos, e4]
        · simp (disch := first | omega | (simp <;> omega) | fail) [if_pos, e4, z]
      · generalize shL P = PP at *
        generalize neL T = TT at *
        generalize ev.map DD.str = EE at *
        simp (disch := first | omega | (simp <;> omega) | fail) [if_pos, ])
  have lss : ss.length ≤ 24 := by have := sub.length_le; omega
  have cS : CO T ss := cA.sub (by omega) fun s hs => sub.subset hs
  -- strange ones
  obtain ⟨ns, t5, e5, n1, n2, n3, T5⟩ := nms T3 (by omega) (M := 26) (by decide)
  have e5 : d__law_names [.tape, .fr (.int 26)] (some t3) = .ok (.lst (ns.map DD.str)) (some t5) := e5
  have lcS : ∀ p3 p4 p6 p7 p9 p10 p11 p12 p13 p14, lcL (.nm 8) (dTest (dOp (gInF true) (dV 8) (dV 5))) (dV 8) [x0, some .tape, o2, p3, p4, some (.fr (.lst (ev.map DD.str))), p6, p7, none, p9, p10, p11, p12, p13, p14] (ns.map DD.str) (some t5) = .ok ((ns.filter fun s => !decide (s ∈ ev)).map DD.str) (some t5) := fun p3 p4 p6 p7 p9 p10 p11 p12 p13 p14 =>
    lcL_fmapOf fun s hs => ⟨_, tgF_nm, by
      have g := gInF_lst (neg := true) (i := s) (ns := ev)
      rw [if_pos rfl] at g
      generalize ev.map DD.str = EE at *
      simp (disch := first | omega | (simp <;> omega) | fail) [if_pos, g], fun _ => by
      generalize ev.map DD.str = EE at *
      simp (disch := first | omega | (simp <;> omega) | fail) [if_pos, ]⟩
  have ol := out_len (es := ev) n3
  have om : ∀ s ∈ ns.filter fun s => !decide (s ∈ ev), Tx 9 s ∧ s ∉ ev := fun s hs => by
    obtain ⟨h1, h2⟩ := List.mem_filter.mp hs
    exact ⟨n2 s h1, by simpa using h2⟩
  have lO : (ns.filter fun s => !decide (s ∈ ev)).length ≤ 26 := by have := List.length_filter_le (fun s => !decide (s ∈ ev)) ns; omega
  generalize (ns.filter fun s => !decide (s ∈ ev)) = O at *
  obtain ⟨s0, s1, O, rfl⟩ : ∃ s0 s1 O', O = s0 :: s1 :: O' := by
    cases O with
    | nil => simp at ol; omega
    | cons s0 O =>
      cases O with
      | nil => simp at ol; omega
      | cons s1 O => exact ⟨s0, s1, O, rfl⟩
  obtain ⟨x1, x2⟩ := om s0 List.mem_cons_self
  have fn : findN T s0 = none := findN_no (by rw [hE]; exact x2)
  have c2 : cutL (DD.str s0 :: DD.str s1 :: O.map DD.str) none (some 2) = [DD.str s0, .str s1] := by rw [cutL_to (by decide)]; rfl
  -- mixed
  obtain ⟨r6, t6, e6, a6, b6, T6⟩ := draw_ok T5 (by omega) (m := 3) (by decide) (by decide)
  have cm : cutL (ss.map DD.str) none (some r6) = (ss.take r6.toNat).map DD.str := by rw [cutL_to a6, List.map_take]
  have lM : (ss.reverse ++ ss.take r6.toNat).length ≤ 48 := by rw [List.length_append, List.length_reverse, List.length_take]; omega
  have eM : (ss.map DD.str).reverse ++ (ss.take r6.toNat).map DD.str = (ss.reverse ++ ss.take r6.toNat).map DD.str := by rw [List.map_append, List.map_reverse]
  have mM : ∀ s, s ∈ ss.reverse ++ ss.take r6.toNat ↔ s ∈ ss := fun s => by
    rw [List.mem_append, List.mem_reverse]
    exact ⟨fun h => h.elim id List.mem_of_mem_take, .inl⟩
  have lk : (ss.take r6.toNat).length ≤ 24 := by rw [List.length_take]; omega
  generalize hk : ss.take r6.toNat = sk at *
  generalize hM : ss.reverse ++ sk = mx at *
  have cM : CO T mx := cS.sub (by omega) fun s hs => (mM s).mp hs
  -- asked
  obtain ⟨t7, q11, e7, a7⟩ := rights hP hT (o0 := x0) (o1 := some .tape) (o2 := o2) (o5 := some (.fr (.lst (ev.map DD.str)))) (o6 := o6) (o7 := some (.fr (.lst (ss.map DD.str)))) (o8 := o8) (o9 := some (.fr (.lst [.str s0, .str s1]))) (o10 := some (.fr (.lst (mx.map DD.str)))) (o12 := o12) (o13 := o13) (o14 := o14) [ss, mx, [], ev] t6 o11 (by
    simp only [List.mem_cons, List.not_mem_nil, or_false]
    rintro x (rfl | rfl | rfl | rfl)
    · exact cS
    · exact cM
    · exact ⟨by simp, (fun _ h => nomatch h), (fun _ h => nomatch h)⟩
    · exact cA)
  simp only [List.map_cons, List.map_nil] at e7
  obtain ⟨t8, e8, a8⟩ := bound_ok hP hT (by have := cS.l; omega) cS.f (t := t7)
  obtain ⟨t9, e9, a9⟩ := bound_ok hP hT (by have := cM.l; omega) cM.f (t := t8)
  have eb : bndV P (pckN T ss) = bndV P (pckN T mx) := by rw [bndV_congr (pckN_perm hT cS.f), bndV_congr (pckN_perm hT cM.f), mem_some fun s => (mM s).symm]
  rw [eb] at e8
  -- refused
  have T9 := (a7.trans (a8.trans a9)).tn T6
  obtain ⟨r10, t10, e10, a10, b10, T10⟩ := draw_ok T9 (by omega) (m := (mx.length : Int) + 1) (by omega) (by omega)
  have ca : cutL (mx.map DD.str) none (some r10) = (mx.take r10.toNat).map DD.str := by rw [cutL_to a10, List.map_take]
  have cb : cutL (mx.map DD.str) (some r10) none = (mx.drop r10.toNat).map DD.str := by rw [cutL_from a10, List.map_drop]
  have cc : cutL [DD.str s0, .str s1] (some 1) none = [.str s1] := by rw [cutL_from (by decide)]; rfl
  have eB : (mx.take r10.toNat ++ s0 :: (mx.drop r10.toNat ++ [s1])).map DD.str = (mx.take r10.toNat).map DD.str ++ DD.str s0 :: ((mx.drop r10.toNat).map DD.str ++ [DD.str s1]) := by simp
  have l1 : (mx.take r10.toNat).length ≤ 48 := by rw [List.length_take]; omega
  have l2 : (mx.drop r10.toNat).length ≤ 48 := by rw [List.length_drop]; omega
  obtain ⟨t11, q14, e11, a11⟩ := refs (P := P) hT (l := mx.take r10.toNat) (r := mx.drop r10.toNat ++ [s1]) (s := s0) (s1 := s1) x1 (by rw [List.length_append, List.length_singleton, List.length_take, List.length_drop]; omega) (fun x hx => cM.f x (List.mem_of_mem_take hx)) fn (o0 := x0) (o1 := some .tape) (o2 := o2) (o5 := some (.fr (.lst (ev.map DD.str)))) (o6 := o6) (o7 := some (.fr (.lst (ss.map DD.str)))) (o8 := o8) (o10 := some (.fr (.lst (mx.map DD.str)))) (o11 := q11) (o12 := some (.fr (.int r10))) (o14 := o14) (t := t10)
  rw [eB] at e11
  refine ⟨t11, some (.fr (shL P)), some (.fr (neL T)), some (.fr (.lst (ev.map DD.str))), some (.fr (.lst (ss.map DD.str))), some (.fr (.lst [.str s0, .str s1])), some (.fr (.lst (mx.map DD.str))), q11, some (.fr (.int r10)), some (.fr (.tup ((mx.take r10.toNat).map DD.str ++ DD.str s0 :: ((mx.drop r10.toNat).map DD.str ++ [DD.str s1])))), q14, ?_, (a11.tn T10).mono (by omega)⟩
  have k0 : atI [DD.str s0, .str s1] 0 = some (.str s0) := rfl
  have g2 : rgOk 0 2 := by unfold rgOk; omega
  have v1 : (ev.map DD.str).length ≤ 24 := by rw [List.length_map]; exact lE
  have v2 : (ss.map DD.str).length ≤ 24 := by rw [List.length_map]; exact lss
  have v3 : (sk.map DD.str).length ≤ 24 := by rw [List.length_map]; exact lk
  have v4 : ((mx.take r10.toNat).map DD.str).length ≤ 48 := by rw [List.length_map]; exact l1
  have v5 : ((mx.drop r10.toNat).map DD.str).length ≤ 48 := by rw [List.length_map]; exact l2
  have v6 : (ns.map DD.str).length ≤ 26 := by rw [List.length_map]; omega
  have v7 : (O.map DD.str).length ≤ 24 := by rw [List.length_map]; simp at lO; omega
  have v8 : (((mx.map DD.str).length : Nat) : Int) = (mx.length : Nat) := by rw [List.length_map]
  simp only [List.map_cons] at lcS
  generalize bndV P (pckN T mx) = BV at *
  clear hk hM
  generalize (mx.take r10.toNat).map DD.str = M1 at *
  generalize (mx.drop r10.toNat).map DD.str = M2 at *
  generalize mx.map DD.str = MM at *
  generalize sk.map DD.str = SK at *
  generalize ss.map DD.str = SS at *
  generalize ev.map DD.str = EE at *
  generalize ns.map DD.str = NN at *
  generalize O.map DD.str = OO at *
  generalize shL P = PP at *
  unfold neL at *
  generalize T.map neD = TT at *
  simp (disch := first | omega | (simp <;> omega) | fail) [if_pos, b_law_L1, b_law_L1_1, b_law_L1_2, b_law_L1_3, b_law_L1_4, b_law_L1_5, b_law_L1_6, b_law_L1_7, b_law_L1_8, b_law_L1_9, b_law_L1_10, Np.pickL, pick1, List.filterMap, e1, ef, e2, lcE, e3, e5, lcS, c2, e6, cm, eM, e7, e8, e9, v8, e10, ca, cb, cc, k0, g2, e11]
theorem law_true (ns : List Int) (hn : ns.length ≤ 63) : ∃ τ, bodyF 15 b_law [.scr ns] none = .ok (.bl true) τ := by
  obtain ⟨ρ', τ', e, t', q2, q3, q4, q5, q7, q9, q10, q11, q12, q13, q14, rfl, T', rfl⟩ := forL_inv (t := .nm 2) (δ := b_law_L1) (ds := rangeD 0 10) (ρ := [some (.scr ns), some .tape, none, none, none, none, none, none, none, none, none, none, none, none, none]) (τ := some ⟨cells0 ns, 0, 0, []⟩)
    (fun i ρ τ => ∃ t' q2 q3 q4 q5 q7 q9 q10 q11 q12 q13 q14, τ = some t' ∧ Tn (5000 * i) t' ∧ ρ = [some (.scr ns), some .tape, q2, q3, q4, q5, none, q7, none, q9, q10, q11, q12, q13, q14])
    ⟨_, none, none, none, none, none, none, none, none, none, none, none, rfl, ⟨Int.le_refl _, Int.le_refl _, Int.le_refl _⟩, rfl⟩ (by
      rintro i d ρ τ hd ⟨t', q2, q3, q4, q5, q7, q9, q10, q11, q12, q13, q14, rfl, T', rfl⟩
      obtain ⟨hi, rfl⟩ := rangeD_get0 hd
      obtain ⟨t2, p3, p4, p5, p7, p9, p10, p11, p12, p13, p14, e, T2⟩ := bout_ok (x0 := some (.scr ns)) (o2 := some (.fr (.int (i : Int)))) (o3 := q3) (o4 := q4) (o5 := q5) (o6 := none) (o7 := q7) (o8 := none) (o9 := q9) (o10 := q10) (o11 := q11) (o12 := q12) (o13 := q13) (o14 := q14) T' (by omega)
      exact ⟨_, tgF_nm, _, some t2, .inl e, t2, _, p3, p4, p5, p7, p9, p10, p11, p12, p13, p14, rfl, T2.mono (by omega), rfl⟩)
  refine ⟨none, ?_⟩
  rw [ev_body]
  show eBody (b_law [some (.scr ns), none, none, none, none, none, none, none, none, none, none, none, none, none, none] none) none = _
  simp [b_law, b_law_1, b_law_2, e]
end Nk50
set_option Elab.async false
set_option linter.all false
set_option maxRecDepth 100000
set_option maxHeartbeats 4000000
namespace Nk50
open PySem L2 Np
abbrev sp_UnknownD_strD (K : PySem.W.Frag) (c : Ad) : Sp := spP (⟨K, c.cm, tkD, [], none⟩ : Wp) 1 d_UnknownD_strD
theorem ok_UnknownD_strD {P : Program} {w : World} {K : PySem.W.Frag} {mg : Str → Option Value} {base : Heap} {c : Ad} {f : Addr} {fd : FuncData} (T : Txt K mg c) (F : Fun K "__str__" "Unknown.__str__" s_UnknownD_strD f fd)
     : FnG P w K mg base CX0 1 f fd ps_UnknownD_strD (sp_UnknownD_strD K c) := by
  refine Fun.okG F sc_UnknownD_strD (fun vs H Q E h => ?_) (fun cdv A outer s H vs Q E hgd hr h => ?_)
  · exact h.1
  · refine ⟨_, (pss_one (ps_ret (pe_joined (.cons pe_str (.cons (pe_fmt (pe_fx K (pv 0))) .nil))))), ?_⟩
    exact body_ok (W := (⟨K, c.cm, tkD, [], none⟩ : Wp)) (N := nm_UnknownD_strD) (k := 1) (δ := b_UnknownD_strD)
      ((ds_ret (dn_joined (.cons dn_str (.cons (dn_fmt (dn_fx (ok := (fun (s : PySem.Str) => decide (s ∈ (["Unknown"] : List PySem.Str)))) (fun s h => by have h := of_decide_eq_true h; simp only [List.mem_cons, List.not_mem_nil, or_false] at h; subst h <;> first | exact ⟨by dsimp only; rw [T.cm_Unknown]; exact T.exc_Unknown, by dsimp only; rw [T.cm_Unknown]; exact T.no_Unknown_name⟩) (dn_v (i := 0)))) .nil))))) h
abbrev sp_rate_at (K : PySem.W.Frag) (c : Ad) : Sp := spP (⟨K, c.cm, tkD, [], none⟩ : Wp) 2 d_rate_at
theorem ok_rate_at {P : Program} {w : World} {K : PySem.W.Frag} {mg : Str → Option Value} {base : Heap} {c : Ad} {f : Addr} {fd : FuncData} (T : Txt K mg c) (F : Fun K "rate_at" "rate_at" s_rate_at f fd)
     : FnG P w K mg base CX0 1 f fd ps_rate_at (sp_rate_at K c) := by
  refine Fun.okG F sc_rate_at (fun vs H Q E h => ?_) (fun cdv A outer s H vs Q E hgd hr h => ?_)
  · exact h.1
  · refine ⟨_, (pss_cons (ps_asg (pv 1) (pg_tupK (n := 2) K (by rfl) (pgs_cons (pg_name (i := 2) sc_rate_at.nd rfl (Or.inl rfl)) (pgs_cons (pg_name (i := 3) sc_rate_at.nd rfl (Or.inl rfl)) pgs_nil))))
      (pss_cons (ps_for PassesOwn.never rfl (pi_listK K (pv 0)) (pg_tupK (n := 2) K (by rfl) (pgs_cons (pg_name (i := 4) sc_rate_at.nd rfl (Or.inl rfl)) (pgs_cons (pg_name (i := 5) sc_rate_at.nd rfl (Or.inl rfl)) pgs_nil)))
      (pss_one (ps_if (PW.pt (pw_and (pt_cmpR op_eq (pv 4) (pv 2) (nomark _)) (pw_and1 (pt_cmpR op_lt (pv 3) (pe_callB (call_lenK K) (by rfl) T.b_len (by decide +kernel) (pa_cons (pv 5) pa_nil)) (nomark _)))))
      (pss_one (ps_ret (pe_ix (ix_tupK K) (pv 5) (pv 3) (fun _ _ => rfl))))
      pss_nil)))
      (pss_one (ps_ret pe_int)))), ?_⟩
    exact body_ok (W := (⟨K, c.cm, tkD, [], none⟩ : Wp)) (N := nm_rate_at) (k := 2) (δ := b_rate_at)
      ((ds_seq (ds_asgT (g := (.tp [(.nm 2), (.nm 3)])) (dn_v (i := 1)))
      (ds_seq (ds_for (g := (.tp [(.nm 4), (.nm 5)])) (di_list (dn_v (i := 0)))
      (ds_if (dt_and (dt_test (dn_op od_eq (dn_v (i := 4)) (dn_v (i := 2)))) (dt_test (dn_op od_lt (dn_v (i := 3)) (dn_cb cd_lenL (da_cons (dn_v (i := 5)) da_nil)))))
      (ds_ret (dn_op od_ixT (dn_v (i := 5)) (dn_v (i := 3))))
      ds_next))
      (ds_ret dn_int)))) h
abbrev sp_is_open (K : PySem.W.Frag) (c : Ad) : Sp := spP (⟨K, c.cm, tkD, [], none⟩ : Wp) 2 d_is_open
theorem ok_is_open {P : Program} {w : World} {K : PySem.W.Frag} {mg : Str → Option Value} {base : Heap} {c : Ad} {f : Addr} {fd : FuncData} (T : Txt K mg c) (F : Fun K "is_open" "is_open" s_is_open f fd)
     : FnG P w K mg base CX0 1 f fd ps_is_open (sp_is_open K c) := by
  refine Fun.okG F sc_is_open (fun vs H Q E h => ?_) (fun cdv A outer s H vs Q E hgd hr h => ?_)
  · exact h.1
  · refine ⟨_, (pss_cons (ps_asg (pv 0) (pg_tupK (n := 5) K (by rfl) (pgs_cons (pg_name (i := 2) sc_is_open.nd rfl (Or.inl rfl)) (pgs_cons (pg_name (i := 3) sc_is_open.nd rfl (Or.inl rfl)) (pgs_cons (pg_name (i := 4) sc_is_open.nd rfl (Or.inl rfl)) (pgs_cons (pg_name (i := 5) sc_is_open.nd rfl (Or.inl rfl)) (pgs_cons (pg_name (i := 6) sc_is_open.nd rfl (Or.inl rfl)) pgs_nil)))))))
      (pss_one (ps_ret (pe_and (pe_chain op_le op_lt (pv 3) (pe_ix (ix_tupK K) (pv 1) pe_int (fun _ _ => rfl)) (pv 4)) (pe_one (pe_cmpR (op_notIn_seqK K) (pe_ix (ix_tupK K) (pv 1) pe_int (fun _ _ => rfl)) (pv 6) (by rfl))))))), ?_⟩
    exact body_ok (W := (⟨K, c.cm, tkD, [], none⟩ : Wp)) (N := nm_is_open) (k := 2) (δ := b_is_open)
      ((ds_seq (ds_asgT (g := (.tp [(.nm 2), (.nm 3), (.nm 4), (.nm 5), (.nm 6)])) (dn_v (i := 0)))
      (ds_ret (dn_and (dn_chain od_le od_lt (dn_v (i := 3)) (dn_op od_ixT (dn_v (i := 1)) dn_int) (dn_v (i := 4))) (dn_op od_in_seq (dn_op od_ixT (dn_v (i := 1)) dn_int) (dn_v (i := 6))))))) h
abbrev sp_need_of (K : PySem.W.Frag) (c : Ad) : Sp := spP (⟨K, c.cm, tkD, [], none⟩ : Wp) 2 d_need_of
theorem ok_need_of {P : Program} {w : World} {K : PySem.W.Frag} {mg : Str → Option Value} {base : Heap} {c : Ad} {f : Addr} {fd : FuncData} (T : Txt K mg c) (F : Fun K "need_of" "need_of" s_need_of f fd)
     : FnG P w K mg base CX0 1 f fd ps_need_of (sp_need_of K c) := by
  refine Fun.okG F sc_need_of (fun vs H Q E h => ?_) (fun cdv A outer s H vs Q E hgd hr h => ?_)
  · exact h.1
  · refine ⟨_, (pss_cons (ps_setLc (i := 2) (own := [("need", 3)]) (g := gName 3) (by rfl) sc_need_of.nd rfl rfl (sw_true rfl rfl rfl (by decide +kernel)) (pi_listK K (pv 0)) (blkOk_by (own := [("need", 3)]) (N := nm_need_of) (sc := defScope s_need_of) (by decide +kernel)) (fun _ _ _ _ _ => (pg_name (i := 3) sc_need_of.nd rfl (Or.inl rfl))) (fun _ _ _ _ _ => (pts_one (pt_cmpR op_eq (pe_ix (ix_tupK K) (pv 3) pe_int (fun _ _ => rfl)) (pv 1) (nomark _)))) (fun _ _ _ _ _ => (pv 3)))
      (pss_one (ps_ret (pe_ifExp (pt_cmpR (op_neDK K hr.units) (pv 2) (pe_lst pa_nil) (nomark _)) (pe_ix (ix_listK K) (pv 2) pe_int (fun _ _ => rfl)) pe_non)))), ?_⟩
    exact body_ok (W := (⟨K, c.cm, tkD, [], none⟩ : Wp)) (N := nm_need_of) (k := 2) (δ := b_need_of)
      ((ds_seq (ds_set (dn_lc (t := (.nm 3)) (vs := [3]) rfl (di_list (dn_v (i := 0))) (dt_test (dn_op od_eq (dn_op od_ixT (dn_v (i := 3)) dn_int) (dn_v (i := 1)))) (dn_v (i := 3))))
      (ds_ret (dn_if (dt_test (dn_op od_neD (dn_v (i := 2)) (dn_lst da_nil))) (dn_op od_ixL (dn_v (i := 2)) dn_int) dn_non)))) h
end Nk50
set_option Elab.async false
set_option linter.all false
set_option maxRecDepth 100000
set_option maxHeartbeats 4000000
namespace Nk50
open PySem L2 Np
abbrev sp_picked (K : PySem.W.Frag) (c : Ad) : Sp := spP (⟨K, c.cm, tkD, [], none⟩ : Wp) 2 d_picked
theorem ok_picked {P : Program} {w : World} {K : PySem.W.Frag} {mg : Str → Option Value} {base : Heap} {c : Ad} {f : Addr} {fd : FuncData} (T : Txt K mg c) (F : Fun K "picked" "picked" s_picked f fd)
    {f_need_of : Addr} {fd_need_of : FuncData} (O_need_of : OkG P w K mg base CX0 1 "need_of" ps_need_of (sp_need_of K c) f_need_of fd_need_of)
    (B_need_of : Binds K fd_need_of ps_need_of [])
    (R_Unknown : RaiseC P w K mg base c.Unknown "Unknown" ps_UnknownD_initD ["name"]) : FnG P w K mg base (L2.CX P w) 4 f fd ps_picked (sp_picked K c) := by
  obtain ⟨fI_Unknown, fdI_Unknown, ini_Unknown, tin_Unknown, I_Unknown, BI_Unknown⟩ := R_Unknown
  refine Fun.okGX F sc_picked (fun vs H Q E h => ?_) (fun cdv A outer s H vs Q E hgd hr h => ?_)
  · exact h.1
  · refine ⟨_, (pss_cons (ps_set (i := 2) sc_picked.nd rfl (Or.inl rfl) pe_dnewK)
      (pss_cons (ps_for (passes_of rfl) rfl (pi_tupK K (pv 1)) (pg_name (i := 3) sc_picked.nd rfl (Or.inl rfl))
      (pss_cons (ps_set (i := 4) sc_picked.nd rfl (Or.inl rfl) (pe_c (dvs := []) O_need_of ⟨[], .nil, B_need_of⟩ hgd (hr.mono (by decide)) pass0At (pa_cons (pv 0) (pa_cons (pv 3) pa_nil))))
      (pss_cons (ps_if (pt_cmpR op_isN (pv 4) pe_non (nomark _))
      (pss_one (ps_raise rfl (takes_of rfl rfl rfl rfl) (pmk_oexB T.oex_Unknown ini_Unknown tin_Unknown (I_Unknown) (hr.mono (by decide)) BI_Unknown .nil pass0 rfl T.g_Unknown (pa_cons (pv 3) pa_nil))))
      pss_nil)
      (pss_one (ps_asg (pv 4) (pg_sub (pv 2) (pv 3) (set_dict (hu_of' hr))))))))
      (pss_one (ps_ret (pe_callTy (call_listV rfl) (by rfl) T.b_list (by decide +kernel) (pa_cons (pe_bm0K K PySem.F.plainAttrs_dict PySem.F.slot_dict_values PySem.F.type_dict_values mt_vals (pv 2)) pa_nil)))))), ?_⟩
    exact body_ok (W := (⟨K, c.cm, tkD, [], none⟩ : Wp)) (N := nm_picked) (k := 2) (δ := b_picked)
      ((ds_seq (ds_set (dn_newK (fun _ _ _ => rfl)))
      (ds_seq (ds_for (g := (.nm 3)) (di_tup (dn_v (i := 1)))
      (ds_seq (ds_set (dn_callN (k := 2) (F := d_need_of) (dv := []) (fun _ _ => .nil) (dps_cons (dp_e (dn_v (i := 0))) (dps_cons (dp_e (dn_v (i := 3))) dps_nil))))
      (ds_seq (ds_if (dt_test (dn_op od_isN (dn_v (i := 4)) dn_non))
      (ds_raise (cls := "Unknown") (names := ["name"]) T.cm_Unknown (da_cons (dn_v (i := 3)) da_nil))
      ds_next)
      (ds_dPut (fun _ _ _ => rfl) (dn_v (i := 2)) (dn_v (i := 3)) (dn_v (i := 4))))))
      (ds_ret (dn_listVals (dn_v (i := 2))))))) h
end Nk50
set_option Elab.async false
set_option linter.all false
set_option maxRecDepth 100000
set_option maxHeartbeats 4000000
namespace Nk50
open PySem L2 Np
abbrev sp_open_slots (K : PySem.W.Frag) (c : Ad) : Sp := spO (⟨K, c.cm, tkD, [], none⟩ : Wp) 2 d_open_slots
theorem ok_open_slots {P : Program} {w : World} {K : PySem.W.Frag} {mg : Str → Option Value} {base : Heap} {c : Ad} {f : Addr} {fd : FuncData} (T : Txt K mg c) (F : Fun K "open_slots" "open_slots" s_open_slots f fd)
    {f_is_open : Addr} {fd_is_open : FuncData} (O_is_open : OkG P w K mg base CX0 1 "is_open" ps_is_open (sp_is_open K c) f_is_open fd_is_open)
    (B_is_open : Binds K fd_is_open ps_is_open []) : FnG P w K mg base CX0 2 f fd ps_open_slots (sp_open_slots K c) := by
  refine Fun.okG F sc_open_slots (fun vs H Q E h => ?_) (fun cdv A outer s H vs Q E hgd hr h => ?_)
  · exact h.1
  · refine ⟨_, (pss_cons (ps_set (i := 2) sc_open_slots.nd rfl (Or.inl rfl) (pe_lst pa_nil))
      (pss_cons (ps_for PassesOwn.never rfl (pi_listK K (pv 0)) (pg_tupK (n := 2) K (by rfl) (pgs_cons (pg_name (i := 3) sc_open_slots.nd rfl (Or.inr rfl)) (pgs_cons (pg_name (i := 4) sc_open_slots.nd rfl (Or.inl rfl)) pgs_nil)))
      (pss_one (ps_for PassesOwn.never rfl (pi_enumT K (by rfl) T.b_enumerate (pa_cons (pv 4) pa_nil)) (pg_tupK (n := 2) K (by rfl) (pgs_cons (pg_name (i := 5) sc_open_slots.nd rfl (Or.inr rfl)) (pgs_cons (pg_name (i := 6) sc_open_slots.nd rfl (Or.inl rfl)) pgs_nil)))
      (pss_one (ps_if (PW.pt (pw_and (pt_cmpR op_gt (pv 6) pe_int (nomark _)) (pw_and1 (pt_val (pe_callB (cr_anyK K rfl) (by rfl) T.b_any (by decide +kernel) (pa_cons (pe_lc (own := [("need", 7)]) (g := gName 7) (tt := tYes) (by rfl) sc_open_slots.nd (pi_listK K (pv 1)) (blkOk_by (own := [("need", 7)]) (N := nm_open_slots) (sc := defScope s_open_slots) (by decide +kernel)) (fun _ _ _ _ _ => (pg_name (i := 7) sc_open_slots.nd rfl (Or.inl rfl))) (fun _ _ _ _ _ => pts_nil) (fun _ _ _ _ _ => (pe_c (dvs := []) O_is_open ⟨[], .nil, B_is_open⟩ hgd (hr.mono (by decide)) pass0At (pa_cons (pv 7) (pa_cons (pe_tup (pa_cons (pv 3) (pa_cons (pv 5) pa_nil))) pa_nil))))) pa_nil))))))
      (pss_one (ps_expr (pe_bmK K PySem.F.plainAttrs_list PySem.F.slot_list_append PySem.F.type_list_append mt_append (pv 2) (pa_cons (pe_tup (pa_cons (pv 3) (pa_cons (pv 5) pa_nil))) pa_nil))))
      pss_nil)))))
      (pss_one (ps_ret (pe_callB (call_sortedPL K hr) (by rfl) T.b_sorted (by decide +kernel) (pa_cons (pv 2) pa_nil)))))), ?_⟩
    exact body_okO (W := (⟨K, c.cm, tkD, [], none⟩ : Wp)) (N := nm_open_slots) (k := 2) (δ := b_open_slots)
      ((ds_seq (ds_setO (df_lst da_nil))
      (ds_seq (ds_for (g := (.tp [(.nm 3), (.nm 4)])) (di_list (dn_v (i := 0)))
      (ds_for (g := (.tp [(.nm 5), (.nm 6)])) (di_enumT (da_cons (dn_v (i := 4)) da_nil))
      (ds_if (dt_and (dt_test (dn_op od_gt (dn_v (i := 6)) dn_int)) (dt_b (dn_cb cd_anyL (da_cons (dn_lc (t := (.nm 7)) (vs := [7]) rfl (di_list (dn_v (i := 1))) dt_yes (dn_callN (k := 2) (F := d_is_open) (dv := []) (fun _ _ => .nil) (dps_cons (dp_e (dn_v (i := 7))) (dps_cons (dp_e (dn_tup (da_cons (dn_v (i := 3)) (da_cons (dn_v (i := 5)) da_nil)))) dps_nil)))) da_nil))))
      (ds_app (i := 2) (dn_tup (da_cons (dn_v (i := 3)) (da_cons (dn_v (i := 5)) da_nil))))
      ds_next)))
      (ds_frz (i := 2) (ds_retF (df_sortPL (da_cons (dn_v (i := 2)) da_nil))))))) h
abbrev sp_slots_of (K : PySem.W.Frag) (c : Ad) : Sp := spO (⟨K, c.cm, tkD, [], none⟩ : Wp) 3 d_slots_of
theorem ok_slots_of {P : Program} {w : World} {K : PySem.W.Frag} {mg : Str → Option Value} {base : Heap} {c : Ad} {f : Addr} {fd : FuncData} (T : Txt K mg c) (F : Fun K "slots_of" "slots_of" s_slots_of f fd)
    {f_open_slots : Addr} {fd_open_slots : FuncData} (O_open_slots : OkG P w K mg base CX0 2 "open_slots" ps_open_slots (sp_open_slots K c) f_open_slots fd_open_slots)
    (B_open_slots : Binds K fd_open_slots ps_open_slots [])
    {f_picked : Addr} {fd_picked : FuncData} (O_picked : OkG P w K mg base (L2.CX P w) 4 "picked" ps_picked (sp_picked K c) f_picked fd_picked)
    (B_picked : Binds K fd_picked ps_picked []) : FnG P w K mg base (L2.CX P w) 5 f fd ps_slots_of (sp_slots_of K c) := by
  refine Fun.okGX F sc_slots_of (fun vs H Q E h => ?_) (fun cdv A outer s H vs Q E hgd hr h => ?_)
  · exact h.1
  · refine ⟨_, (pss_one (ps_ret (pe_c (dvs := []) O_open_slots ⟨[], .nil, B_open_slots⟩ hgd (hr.mono (by decide)) pass0At (pa_cons (pv 0) (pa_cons (pe_c (dvs := []) O_picked ⟨[], .nil, B_picked⟩ hgd (hr.mono (by decide)) (passXAt (takes_of rfl rfl rfl rfl)) (pa_cons (pv 1) (pa_cons (pv 2) pa_nil))) pa_nil))))), ?_⟩
    exact body_okO (W := (⟨K, c.cm, tkD, [], none⟩ : Wp)) (N := nm_slots_of) (k := 3) (δ := b_slots_of)
      ((ds_retF (df_callN (k := 2) (F := d_open_slots) (dv := []) (fun _ _ => .nil) (dps_cons (dp_e (dn_v (i := 0))) (dps_cons (dp_e (dn_call (k := 2) (F := d_picked) (dv := []) (fun _ _ => .nil) (dps_cons (dp_e (dn_v (i := 1))) (dps_cons (dp_e (dn_v (i := 2))) dps_nil)))) dps_nil))))) h
abbrev sp_bound (K : PySem.W.Frag) (c : Ad) : Sp := spP (⟨K, c.cm, tkD, [], none⟩ : Wp) 3 d_bound
theorem ok_bound {P : Program} {w : World} {K : PySem.W.Frag} {mg : Str → Option Value} {base : Heap} {c : Ad} {f : Addr} {fd : FuncData} (T : Txt K mg c) (F : Fun K "bound" "bound" s_bound f fd)
    {f_picked : Addr} {fd_picked : FuncData} (O_picked : OkG P w K mg base (L2.CX P w) 4 "picked" ps_picked (sp_picked K c) f_picked fd_picked)
    (B_picked : Binds K fd_picked ps_picked [])
    {f_rate_at : Addr} {fd_rate_at : FuncData} (O_rate_at : OkG P w K mg base CX0 1 "rate_at" ps_rate_at (sp_rate_at K c) f_rate_at fd_rate_at)
    (B_rate_at : Binds K fd_rate_at ps_rate_at [])
    {f_open_slots : Addr} {fd_open_slots : FuncData} (O_open_slots : OkG P w K mg base CX0 2 "open_slots" ps_open_slots (sp_open_slots K c) f_open_slots fd_open_slots)
    (B_open_slots : Binds K fd_open_slots ps_open_slots []) : FnG P w K mg base (L2.CX P w) 5 f fd ps_bound (sp_bound K c) := by
  refine Fun.okGX F sc_bound (fun vs H Q E h => ?_) (fun cdv A outer s H vs Q E hgd hr h => ?_)
  · exact h.1
  · refine ⟨_, (pss_cons (ps_set (i := 3) sc_bound.nd rfl (Or.inl rfl) (pe_c (dvs := []) O_picked ⟨[], .nil, B_picked⟩ hgd (hr.mono (by decide)) (passXAt (takes_of rfl rfl rfl rfl)) (pa_cons (pv 1) (pa_cons (pv 2) pa_nil))))
      (pss_cons (ps_setLc (i := 4) (own := [("slot", 5)]) (g := gName 5) (tt := tYes) (by rfl) sc_bound.nd rfl rfl (sw_true rfl rfl rfl (by decide +kernel)) (pi_listK K (pe_c (dvs := []) O_open_slots ⟨[], .nil, B_open_slots⟩ hgd (hr.mono (by decide)) pass0At (pa_cons (pv 0) (pa_cons (pv 3) pa_nil)))) (blkOk_by (own := [("slot", 5)]) (N := nm_bound) (sc := defScope s_bound) (by decide +kernel)) (fun _ _ _ _ _ => (pg_name (i := 5) sc_bound.nd rfl (Or.inl rfl))) (fun _ _ _ _ _ => pts_nil) (fun _ _ _ _ _ => (pe_c (dvs := []) O_rate_at ⟨[], .nil, B_rate_at⟩ hgd (hr.mono (by decide)) pass0At (pa_cons (pv 0) (pa_cons (pv 5) pa_nil)))))
      (pss_one (ps_ret (pe_callBK (cr_sumS rfl K) rfl T.b_sum (by decide +kernel) (pa_cons (pe_lc (own := [("need", 6)]) (g := gName 6) (tt := tYes) (by rfl) sc_bound.nd (pi_listK K (pv 3)) (blkOk_by (own := [("need", 6)]) (N := nm_bound) (sc := defScope s_bound) (by decide +kernel)) (fun _ _ _ _ _ => (pg_name (i := 6) sc_bound.nd rfl (Or.inl rfl))) (fun _ _ _ _ _ => pts_nil) (fun _ _ _ _ _ => (pe_ix (ix_tupK K) (pv 6) pe_int (fun _ _ => rfl)))) pa_nil) (pk_cons (pe_op op_sub pe_int (pe_callB (cr_sumK K rfl) (by rfl) T.b_sum (by decide +kernel) (pa_cons (pv 4) pa_nil))) pk_nil)))))), ?_⟩
    exact body_ok (W := (⟨K, c.cm, tkD, [], none⟩ : Wp)) (N := nm_bound) (k := 3) (δ := b_bound)
      ((ds_seq (ds_set (dn_call (k := 2) (F := d_picked) (dv := []) (fun _ _ => .nil) (dps_cons (dp_e (dn_v (i := 1))) (dps_cons (dp_e (dn_v (i := 2))) dps_nil))))
      (ds_seq (ds_set (dn_lc (t := (.nm 5)) (vs := [5]) rfl (di_list (dn_fz (df_callN (k := 2) (F := d_open_slots) (dv := []) (fun _ _ => .nil) (dps_cons (dp_e (dn_v (i := 0))) (dps_cons (dp_e (dn_v (i := 3))) dps_nil))))) dt_yes (dn_callN (k := 2) (F := d_rate_at) (dv := []) (fun _ _ => .nil) (dps_cons (dp_e (dn_v (i := 0))) (dps_cons (dp_e (dn_v (i := 5))) dps_nil)))))
      (ds_ret (dn_sumS (da_cons (dn_lc (t := (.nm 6)) (vs := [6]) rfl (di_list (dn_v (i := 3))) dt_yes (dn_op od_ixT (dn_v (i := 6)) dn_int)) da_nil) (da_cons (dn_op od_sub dn_int (dn_cb cd_sum (da_cons (dn_v (i := 4)) da_nil))) da_nil)))))) h
end Nk50
set_option Elab.async false
set_option linter.all false
set_option maxRecDepth 100000
set_option maxHeartbeats 4000000
namespace Nk50
open PySem L2 Np
abbrev sp__law_pen (K : PySem.W.Frag) (c : Ad) : Sp := spTape (⟨K, c.cm, tkD, [], none⟩ : Wp)
theorem ok__law_pen {P : Program} {w : World} {K : PySem.W.Frag} {mg : Str → Option Value} {base : Heap} {c : Ad} {f : Addr} {fd : FuncData} (T : Txt K mg c) (F : Fun K "_law_pen" "_law_pen" s__law_pen f fd)
     : FnG P w K mg base CX0 1 f fd ps__law_pen (sp__law_pen K c) := by
  refine Fun.okG F sc__law_pen (fun vs H Q E h => ?_) (fun cdv A outer s H vs Q E hgd hr h => ?_)
  · obtain ⟨a, ns, rfl, hS, k⟩ := h
    rfl
  · obtain ⟨a, ns, rfl, hS, k⟩ := h
    refine ⟨_, (pss_one (ps_ret (pe_disp (pps_cons pe_str (pe_callTy (call_listK K) (by rfl) T.b_list (by decide +kernel) (pa_cons (pe_slice (sl_listK K) (pv 0) po_none (po_some pe_int)) pa_nil)) (pps_cons pe_str pe_int (pps_cons pe_str pe_int pps_nil))) (by rfl) (by rfl) (fun z => by cases z) (by decide)))), ?_⟩
    refine fun tp ntp => ⟨_, rfl, _, rfl, a, _, rfl, (same_new ntp).seq hS, fun p1 n1 => ?_⟩
    rw [cells0_eq]
    refine ⟨p1, _, rfl, .inl (SqL.of upd_same), fun p2 n2 => ?_⟩
    refine ⟨(same_new n2 _ _ (same_new n1 _ _ upd_same)), [(.inr "cells", .ref p2), (.inr "at", .int 0), (.inr "left", .int 0)], rfl, (by show 3 ≤ 15; decide), ?_⟩
    have e1 : tp ≠ p1 := ne_of_none upd_same n1
    have e2 : tp ≠ p2 := ne_of_none (same_new n1 _ _ upd_same) n2
    have e3 : p1 ≠ p2 := ne_of_none upd_same n2
    have h2 : H p2 = none := by rw [upd_ne e3.symm, upd_ne e2.symm] at n2; exact n2
    have h1 : H p1 = none := by rw [upd_ne e1.symm] at n1; exact n1
    refine k p2 tp _ (fun b u hb => ?_) h2 ntp (fun z => e2 z.symm) ?_ upd_same
    · rw [upd_ne (ne_of_none hb ntp), upd_ne (ne_of_none hb h2), upd_ne (ne_of_none hb h1), upd_ne (ne_of_none hb ntp)]
      exact hb
    · rw [upd_ne (fun z => e2 z.symm)]
      exact upd_same
abbrev sp__law_draw (K : PySem.W.Frag) (c : Ad) : Sp := spP (⟨K, c.cm, tkD, [], none⟩ : Wp) 2 d__law_draw
theorem ok__law_draw {P : Program} {w : World} {K : PySem.W.Frag} {mg : Str → Option Value} {base : Heap} {c : Ad} {f : Addr} {fd : FuncData} (T : Txt K mg c) (F : Fun K "_law_draw" "_law_draw" s__law_draw f fd)
     : FnG P w K mg base CX0 1 f fd ps__law_draw (sp__law_draw K c) := by
  refine Fun.okG F sc__law_draw (fun vs H Q E h => ?_) (fun cdv A outer s H vs Q E hgd hr h => ?_)
  · exact h.1
  · refine ⟨_, (pss_cons (ps_if (pt_cmpR op_gt (pe_dget (hu_of' hr) (pv 0) pe_str (fun _ _ => rfl)) pe_int (nomark _))
      (pss_cons (ps_set (i := 2) sc__law_draw.nd rfl (Or.inl rfl) (pe_op op_mod (pe_dget (hu_of' hr) (pv 0) pe_str (fun _ _ => rfl)) (pv 1)))
      (pss_cons (ps_dput (hu_of' hr) (pv 0) pe_str (pe_op op_fdivN (pe_dget (hu_of' hr) (pv 0) pe_str (fun _ _ => rfl)) (pv 1)) rfl)
      (pss_one (ps_ret (pv 2)))))
      pss_nil)
      (pss_cons (ps_set (i := 3) sc__law_draw.nd rfl (Or.inl rfl) (pe_dget (hu_of' hr) (pv 0) pe_str (fun _ _ => rfl)))
      (pss_cons (ps_dput (hu_of' hr) (pv 0) pe_str (pe_op op_add (pv 3) pe_int) rfl)
      (pss_cons (ps_set (i := 4) sc__law_draw.nd rfl (Or.inl rfl) (pe_op op_add pe_int (pe_op op_mul pe_int (pv 3))))
      (pss_cons (ps_if (pt_cmpR (op_neDK K hr.units) (pe_dget (hu_of' hr) (pv 0) pe_str (fun _ _ => rfl)) (pe_lst pa_nil) (nomark _))
      (pss_one (ps_set (i := 4) sc__law_draw.nd rfl (Or.inl rfl) (pe_ix (ix_listK K) (pe_dget (hu_of' hr) (pv 0) pe_str (fun _ _ => rfl)) (pe_op op_mod (pv 3) (pe_callB (call_lenK K) (by rfl) T.b_len (by decide +kernel) (pa_cons (pe_dget (hu_of' hr) (pv 0) pe_str (fun _ _ => rfl)) pa_nil))) (fun _ _ => rfl))))
      pss_nil)
      (pss_cons (ps_if (PW.pt (pw_and (pt_cmpR op_lt (pv 3) (pe_callB (call_lenK K) (by rfl) T.b_len (by decide +kernel) (pa_cons (pe_dget (hu_of' hr) (pv 0) pe_str (fun _ _ => rfl)) pa_nil)) (nomark _)) (pw_and1 (pt_cmpR op_ge (pe_callB call_abs (by rfl) T.b_abs (by decide +kernel) (pa_cons (pv 4) pa_nil)) (pe_op op_pow pe_int pe_int) (nomark _)))))
      (pss_cons (ps_dput (hu_of' hr) (pv 0) pe_str (pe_op op_fdivN (pe_callB call_abs (by rfl) T.b_abs (by decide +kernel) (pa_cons (pv 4) pa_nil)) (pv 1)) rfl)
      (pss_one (ps_ret (pe_op op_mod (pe_callB call_abs (by rfl) T.b_abs (by decide +kernel) (pa_cons (pv 4) pa_nil)) (pv 1)))))
      pss_nil)
      (pss_cons (ps_set (i := 5) sc__law_draw.nd rfl (Or.inl rfl) (pe_op op_mod (pe_op op_mul (pe_op op_add (pe_op op_mod (pv 4) pe_int) pe_int) (pe_op op_add (pe_op op_add (pe_op op_mul (pv 3) (pv 3)) (pe_op op_mul pe_int (pv 3))) pe_int)) pe_int))
      (pss_cons (ps_set (i := 5) sc__law_draw.nd rfl (Or.inl rfl) (pe_op op_mod (pe_op op_mul (pe_op op_mod (pe_op op_add (pe_op op_pow (pv 5) pe_int) (pe_op op_mul pe_int (pv 3))) pe_int) pe_int) pe_int))
      (pss_cons (ps_if (pt_cmpR op_gt (pv 1) (pe_op op_pow pe_int pe_int) (nomark _))
      (pss_one (ps_set (i := 5) sc__law_draw.nd rfl (Or.inl rfl) (pe_op op_add (pe_op op_mul (pv 5) pe_int) (pe_op op_mod (pe_op op_mul (pe_op op_mod (pv 5) pe_int) pe_int) pe_int))))
      pss_nil)
      (pss_one (ps_ret (pe_op op_mod (pe_op op_fdiv (pv 5) pe_int) (pv 1))))))))))))), ?_⟩
    exact body_ok (W := (⟨K, c.cm, tkD, [], none⟩ : Wp)) (N := nm__law_draw) (k := 2) (δ := b__law_draw)
      ((ds_seq (ds_if (dt_test (dn_op od_gt (dn_td (i := 0) (k := .left) rfl) dn_int))
      (ds_seq (ds_set (dn_op od_mod (dn_td (i := 0) (k := .left) rfl) (dn_v (i := 1))))
      (ds_seq (ds_tdPut (i := 0) (k := .left) rfl (dn_op od_fdivN (dn_td (i := 0) (k := .left) rfl) (dn_v (i := 1))))
      (ds_ret (dn_v (i := 2)))))
      ds_next)
      (ds_seq (ds_set (dn_td (i := 0) (k := .at') rfl))
      (ds_seq (ds_tdPut (i := 0) (k := .at') rfl (dn_op od_add (dn_v (i := 3)) dn_int))
      (ds_seq (ds_set (dn_op od_add dn_int (dn_op od_mul dn_int (dn_v (i := 3)))))
      (ds_seq (ds_if (dt_test (dn_op od_neD (dn_td (i := 0) (k := .cells) rfl) (dn_lst da_nil)))
      (ds_set (dn_op od_ixL (dn_td (i := 0) (k := .cells) rfl) (dn_op od_mod (dn_v (i := 3)) (dn_cb cd_lenL (da_cons (dn_td (i := 0) (k := .cells) rfl) da_nil)))))
      ds_next)
      (ds_seq (ds_if (dt_and (dt_test (dn_op od_lt (dn_v (i := 3)) (dn_cb cd_lenL (da_cons (dn_td (i := 0) (k := .cells) rfl) da_nil)))) (dt_test (dn_op od_ge (dn_cb cd_abs (da_cons (dn_v (i := 4)) da_nil)) (dn_op od_pow dn_int dn_int))))
      (ds_seq (ds_tdPut (i := 0) (k := .left) rfl (dn_op od_fdivN (dn_cb cd_abs (da_cons (dn_v (i := 4)) da_nil)) (dn_v (i := 1))))
      (ds_ret (dn_op od_mod (dn_cb cd_abs (da_cons (dn_v (i := 4)) da_nil)) (dn_v (i := 1)))))
      ds_next)
      (ds_seq (ds_set (dn_op od_mod (dn_op od_mul (dn_op od_add (dn_op od_mod (dn_v (i := 4)) dn_int) dn_int) (dn_op od_add (dn_op od_add (dn_op od_mul (dn_v (i := 3)) (dn_v (i := 3))) (dn_op od_mul dn_int (dn_v (i := 3)))) dn_int)) dn_int))
      (ds_seq (ds_set (dn_op od_mod (dn_op od_mul (dn_op od_mod (dn_op od_add (dn_op od_pow (dn_v (i := 5)) dn_int) (dn_op od_mul dn_int (dn_v (i := 3)))) dn_int) dn_int) dn_int))
      (ds_seq (ds_if (dt_test (dn_op od_gt (dn_v (i := 1)) (dn_op od_pow dn_int dn_int)))
      (ds_set (dn_op od_add (dn_op od_mul (dn_v (i := 5)) dn_int) (dn_op od_mod (dn_op od_mul (dn_op od_mod (dn_v (i := 5)) dn_int) dn_int) dn_int)))
      ds_next)
      (ds_ret (dn_op od_mod (dn_op od_fdiv (dn_v (i := 5)) dn_int) (dn_v (i := 1)))))))))))))) h
end Nk50
set_option Elab.async false
set_option linter.all false
set_option maxRecDepth 100000
set_option maxHeartbeats 4000000
namespace Nk50
open PySem L2 Np
abbrev sp__law_names (K : PySem.W.Frag) (c : Ad) : Sp := spP (⟨K, c.cm, tkD, [], none⟩ : Wp) 2 d__law_names
theorem ok__law_names {P : Program} {w : World} {K : PySem.W.Frag} {mg : Str → Option Value} {base : Heap} {c : Ad} {f : Addr} {fd : FuncData} (T : Txt K mg c) (F : Fun K "_law_names" "_law_names" s__law_names f fd)
    {f__law_draw : Addr} {fd__law_draw : FuncData} (O__law_draw : OkG P w K mg base CX0 1 "_law_draw" ps__law_draw (sp__law_draw K c) f__law_draw fd__law_draw)
    (B__law_draw : Binds K fd__law_draw ps__law_draw []) : FnG P w K mg base CX0 2 f fd ps__law_names (sp__law_names K c) := by
  refine Fun.okG F sc__law_names (fun vs H Q E h => ?_) (fun cdv A outer s H vs Q E hgd hr h => ?_)
  · exact h.1
  · refine ⟨_, (pss_cons (ps_set (i := 2) sc__law_names.nd rfl (Or.inr rfl) pe_str)
      (pss_cons (ps_set (i := 3) sc__law_names.nd rfl (Or.inr rfl) (pe_op op_add pe_int (pe_c (dvs := []) O__law_draw ⟨[], .nil, B__law_draw⟩ hgd (hr.mono (by decide)) pass0At (pa_cons (pv 0) (pa_cons pe_int pa_nil)))))
      (pss_cons (ps_set (i := 4) sc__law_names.nd rfl (Or.inr rfl) (pe_joinK K pe_str (pe_lc (own := [("_law_k", 5)]) (g := gName 5) (tt := tYes) (by rfl) sc__law_names.nd (pi_range1 (by rfl) T.b_range (pa_cons (pv 3) pa_nil)) (blkOk_by (own := [("_law_k", 5)]) (N := nm__law_names) (sc := defScope s__law_names) (by decide +kernel)) (fun _ _ _ _ _ => (pg_name (i := 5) sc__law_names.nd rfl (Or.inl rfl))) (fun _ _ _ _ _ => pts_nil) (fun _ _ _ _ _ => (pe_ix ix_str (pv 2) (pe_c (dvs := []) O__law_draw ⟨[], .nil, B__law_draw⟩ hgd (hr.mono (by decide)) pass0At (pa_cons (pv 0) (pa_cons pe_int pa_nil))) (fun _ _ => rfl))))))
      (pss_cons (ps_asg (pe_tup (pa_cons (pe_c (dvs := []) O__law_draw ⟨[], .nil, B__law_draw⟩ hgd (hr.mono (by decide)) pass0At (pa_cons (pv 0) (pa_cons (pv 3) pa_nil))) (pa_cons (pe_c (dvs := []) O__law_draw ⟨[], .nil, B__law_draw⟩ hgd (hr.mono (by decide)) pass0At (pa_cons (pv 0) (pa_cons pe_int pa_nil))) pa_nil))) (pg_tupK (n := 2) K (by rfl) (pgs_cons (pg_name (i := 6) sc__law_names.nd rfl (Or.inr rfl)) (pgs_cons (pg_name (i := 7) sc__law_names.nd rfl (Or.inr rfl)) pgs_nil))))
      (pss_cons (ps_asg (pe_tup (pa_cons (pe_ix (ix_listK K) (pe_lst (pa_cons pe_int (pa_cons pe_int (pa_cons pe_int (pa_cons pe_int (pa_cons pe_int (pa_cons pe_int pa_nil))))))) (pe_c (dvs := []) O__law_draw ⟨[], .nil, B__law_draw⟩ hgd (hr.mono (by decide)) pass0At (pa_cons (pv 0) (pa_cons pe_int pa_nil))) (fun _ _ => rfl)) (pa_cons (pe_c (dvs := []) O__law_draw ⟨[], .nil, B__law_draw⟩ hgd (hr.mono (by decide)) pass0At (pa_cons (pv 0) (pa_cons pe_int pa_nil))) pa_nil))) (pg_tupK (n := 2) K (by rfl) (pgs_cons (pg_name (i := 8) sc__law_names.nd rfl (Or.inr rfl)) (pgs_cons (pg_name (i := 9) sc__law_names.nd rfl (Or.inr rfl)) pgs_nil))))
      (pss_cons (ps_set (i := 10) sc__law_names.nd rfl (Or.inr rfl) (pe_lc (own := [("_law_k", 5)]) (g := gName 5) (tt := tYes) (by rfl) sc__law_names.nd (pi_range1 (by rfl) T.b_range (pa_cons (pv 1) pa_nil)) (blkOk_by (own := [("_law_k", 5)]) (N := nm__law_names) (sc := defScope s__law_names) (by decide +kernel)) (fun _ _ _ _ _ => (pg_name (i := 5) sc__law_names.nd rfl (Or.inl rfl))) (fun _ _ _ _ _ => pts_nil) (fun _ _ _ _ _ => (pe_slice sl_str (pe_slice sl_str (pv 4) (po_some (pe_op op_add (pv 6) pe_int)) po_none) po_none (po_some (pe_callB (call_max2 rfl) (by rfl) T.b_max (by decide +kernel) (pa_cons pe_int (pa_cons (pe_op op_sub (pe_op op_sub (pe_op op_sub (pv 3) (pv 6)) pe_int) (pe_op op_mul (pv 9) (pe_op op_mod (pv 5) pe_int))) pa_nil))))))))
      (pss_one (ps_ret (pe_lc (own := [("_law_k", 5)]) (g := gName 5) (tt := tYes) (by rfl) sc__law_names.nd (pi_range1 (by rfl) T.b_range (pa_cons (pv 1) pa_nil)) (blkOk_by (own := [("_law_k", 5)]) (N := nm__law_names) (sc := defScope s__law_names) (by decide +kernel)) (fun _ _ _ _ _ => (pg_name (i := 5) sc__law_names.nd rfl (Or.inl rfl))) (fun _ _ _ _ _ => pts_nil) (fun _ _ _ _ _ => (pe_op op_add_str (pe_op op_add_str (pe_slice sl_str (pv 4) po_none (po_some (pv 6))) (pe_ix ix_str (pv 2) (pe_op op_mod (pe_op op_add (pv 7) (pe_op op_mul (pv 8) (pv 5))) pe_int) (fun _ _ => rfl))) (pe_ix (ix_listK K) (pv 10) (pv 5) (fun _ _ => rfl))))))))))))), ?_⟩
    exact body_ok (W := (⟨K, c.cm, tkD, [], none⟩ : Wp)) (N := nm__law_names) (k := 2) (δ := b__law_names)
      ((ds_seq (ds_set dn_str)
      (ds_seq (ds_set (dn_op od_add dn_int (dn_callN (k := 2) (F := d__law_draw) (dv := []) (fun _ _ => .nil) (dps_cons (dp_t (i := 0)) (dps_cons (dp_e dn_int) dps_nil)))))
      (ds_seq (ds_set (dn_m1 md_join dn_str (dn_lc (t := (.nm 5)) (vs := [5]) rfl (di_range1 (da_cons (dn_v (i := 3)) da_nil)) dt_yes (dn_op od_ixS (dn_v (i := 2)) (dn_callN (k := 2) (F := d__law_draw) (dv := []) (fun _ _ => .nil) (dps_cons (dp_t (i := 0)) (dps_cons (dp_e dn_int) dps_nil)))))))
      (ds_seq (ds_asgT (g := (.tp [(.nm 6), (.nm 7)])) (dn_tup (da_cons (dn_callN (k := 2) (F := d__law_draw) (dv := []) (fun _ _ => .nil) (dps_cons (dp_t (i := 0)) (dps_cons (dp_e (dn_v (i := 3))) dps_nil))) (da_cons (dn_callN (k := 2) (F := d__law_draw) (dv := []) (fun _ _ => .nil) (dps_cons (dp_t (i := 0)) (dps_cons (dp_e dn_int) dps_nil))) da_nil))))
      (ds_seq (ds_asgT (g := (.tp [(.nm 8), (.nm 9)])) (dn_tup (da_cons (dn_op od_ixL (dn_lst (da_cons dn_int (da_cons dn_int (da_cons dn_int (da_cons dn_int (da_cons dn_int (da_cons dn_int da_nil))))))) (dn_callN (k := 2) (F := d__law_draw) (dv := []) (fun _ _ => .nil) (dps_cons (dp_t (i := 0)) (dps_cons (dp_e dn_int) dps_nil)))) (da_cons (dn_callN (k := 2) (F := d__law_draw) (dv := []) (fun _ _ => .nil) (dps_cons (dp_t (i := 0)) (dps_cons (dp_e dn_int) dps_nil))) da_nil))))
      (ds_seq (ds_set (dn_lc (t := (.nm 5)) (vs := [5]) rfl (di_range1 (da_cons (dn_v (i := 1)) da_nil)) dt_yes (dn_slice sd_str (dn_slice sd_str (dn_v (i := 4)) (do_some (dn_op od_add (dn_v (i := 6)) dn_int)) do_none) do_none (do_some (dn_cb cd_max2 (da_cons dn_int (da_cons (dn_op od_sub (dn_op od_sub (dn_op od_sub (dn_v (i := 3)) (dn_v (i := 6))) dn_int) (dn_op od_mul (dn_v (i := 9)) (dn_op od_mod (dn_v (i := 5)) dn_int))) da_nil)))))))
      (ds_ret (dn_lc (t := (.nm 5)) (vs := [5]) rfl (di_range1 (da_cons (dn_v (i := 1)) da_nil)) dt_yes (dn_op od_add_str (dn_op od_add_str (dn_slice sd_str (dn_v (i := 4)) do_none (do_some (dn_v (i := 6)))) (dn_op od_ixS (dn_v (i := 2)) (dn_op od_mod (dn_op od_add (dn_v (i := 7)) (dn_op od_mul (dn_v (i := 8)) (dn_v (i := 5)))) dn_int))) (dn_op od_ixL (dn_v (i := 10)) (dn_v (i := 5))))))))))))) h
end Nk50
set_option Elab.async false
set_option linter.all false
set_option maxRecDepth 100000
set_option maxHeartbeats 4000000
namespace Nk50
open PySem L2 Np
abbrev sp__law_shop (K : PySem.W.Frag) (c : Ad) : Sp := spP (⟨K, c.cm, tkD, [], none⟩ : Wp) 3 d__law_shop
theorem ok__law_shop {P : Program} {w : World} {K : PySem.W.Frag} {mg : Str → Option Value} {base : Heap} {c : Ad} {f : Addr} {fd : FuncData} (T : Txt K mg c) (F : Fun K "_law_shop" "_law_shop" s__law_shop f fd)
    {f__law_names : Addr} {fd__law_names : FuncData} (O__law_names : OkG P w K mg base CX0 2 "_law_names" ps__law_names (sp__law_names K c) f__law_names fd__law_names)
    (B__law_names : Binds K fd__law_names ps__law_names [])
    {f__law_draw : Addr} {fd__law_draw : FuncData} (O__law_draw : OkG P w K mg base CX0 1 "_law_draw" ps__law_draw (sp__law_draw K c) f__law_draw fd__law_draw)
    (B__law_draw : Binds K fd__law_draw ps__law_draw []) : FnG P w K mg base CX0 3 f fd ps__law_shop (sp__law_shop K c) := by
  refine Fun.okG F sc__law_shop (fun vs H Q E h => ?_) (fun cdv A outer s H vs Q E hgd hr h => ?_)
  · exact h.1
  · refine ⟨_, (pss_cons (ps_par (i := 3) (j := 4) (by rfl) sc__law_shop.nd rfl rfl (by decide) rfl rfl (pa_cons (pe_c (dvs := []) O__law_names ⟨[], .nil, B__law_names⟩ hgd (hr.mono (by decide)) pass0At (pa_cons (pv 0) (pa_cons pe_int pa_nil))) (pa_cons (pe_c (dvs := []) O__law_names ⟨[], .nil, B__law_names⟩ hgd (hr.mono (by decide)) pass0At (pa_cons (pv 0) (pa_cons pe_int pa_nil))) pa_nil)) (by rfl))
      (pss_cons (ps_par (i := 5) (j := 6) (by rfl) sc__law_shop.nd rfl rfl (by decide) rfl rfl (pa_cons (pe_lst pa_nil) (pa_cons (pe_lst pa_nil) pa_nil)) (by rfl))
      (pss_cons (ps_for PassesOwn.never rfl (pi_range1 (by rfl) T.b_range (pa_cons (pe_c (dvs := []) O__law_draw ⟨[], .nil, B__law_draw⟩ hgd (hr.mono (by decide)) pass0At (pa_cons (pv 0) (pa_cons (pe_op op_add (pe_ix (ix_tupK K) (pv 1) pe_int (fun _ _ => rfl)) pe_int) pa_nil))) pa_nil)) (pg_name (i := 7) sc__law_shop.nd rfl (Or.inl rfl))
      (pss_cons (ps_set (i := 8) sc__law_shop.nd rfl (Or.inl rfl) (pe_ix (ix_listK K) (pe_lst (pa_cons (pe_op op_add pe_int (pe_c (dvs := []) O__law_draw ⟨[], .nil, B__law_draw⟩ hgd (hr.mono (by decide)) pass0At (pa_cons (pv 0) (pa_cons pe_int pa_nil)))) (pa_cons pe_int pa_nil))) (pe_c (dvs := []) O__law_draw ⟨[], .nil, B__law_draw⟩ hgd (hr.mono (by decide)) pass0At (pa_cons (pv 0) (pa_cons pe_int pa_nil))) (fun _ _ => rfl)))
      (pss_cons (ps_setLc (i := 9) (own := [("_law_hour", 10)]) (g := gName 10) (tt := tYes) (by rfl) sc__law_shop.nd rfl rfl (sw_true rfl rfl rfl (by decide +kernel)) (pi_range1 (by rfl) T.b_range (pa_cons (pv 8) pa_nil)) (blkOk_by (own := [("_law_hour", 10)]) (N := nm__law_shop) (sc := defScope s__law_shop) (by decide +kernel)) (fun _ _ _ _ _ => (pg_name (i := 10) sc__law_shop.nd rfl (Or.inl rfl))) (fun _ _ _ _ _ => pts_nil) (fun _ _ _ _ _ => (pe_ix (ix_listK K) (pe_lst (pa_cons pe_int (pa_cons (pe_c (dvs := []) O__law_draw ⟨[], .nil, B__law_draw⟩ hgd (hr.mono (by decide)) pass0At (pa_cons (pv 0) (pa_cons (pe_op op_add (pv 2) pe_int) pa_nil))) (pa_cons (pv 2) pa_nil)))) (pe_op op_fdiv (pe_c (dvs := []) O__law_draw ⟨[], .nil, B__law_draw⟩ hgd (hr.mono (by decide)) pass0At (pa_cons (pv 0) (pa_cons pe_int pa_nil))) pe_int) (fun _ _ => rfl))))
      (pss_one (ps_expr (pe_bmK K PySem.F.plainAttrs_list PySem.F.slot_list_append PySem.F.type_list_append mt_append (pv 5) (pa_cons (pe_tup (pa_cons (pe_ix (ix_listK K) (pv 3) (pv 7) (fun _ _ => rfl)) (pa_cons (pe_callTy (call_tupleK K) (by rfl) T.b_tuple (by decide +kernel) (pa_cons (pv 9) pa_nil)) pa_nil))) pa_nil)))))))
      (pss_cons (ps_for PassesOwn.never rfl (pi_range1 (by rfl) T.b_range (pa_cons (pe_c (dvs := []) O__law_draw ⟨[], .nil, B__law_draw⟩ hgd (hr.mono (by decide)) pass0At (pa_cons (pv 0) (pa_cons (pe_op op_add (pe_ix (ix_tupK K) (pv 1) pe_int (fun _ _ => rfl)) pe_int) pa_nil))) pa_nil)) (pg_name (i := 7) sc__law_shop.nd rfl (Or.inl rfl))
      (pss_cons (ps_set (i := 11) sc__law_shop.nd rfl (Or.inl rfl) (pe_c (dvs := []) O__law_draw ⟨[], .nil, B__law_draw⟩ hgd (hr.mono (by decide)) pass0At (pa_cons (pv 0) (pa_cons pe_int pa_nil))))
      (pss_cons (ps_set (i := 12) sc__law_shop.nd rfl (Or.inl rfl) (pe_op op_add (pe_op op_add (pv 11) pe_int) (pe_c (dvs := []) O__law_draw ⟨[], .nil, B__law_draw⟩ hgd (hr.mono (by decide)) pass0At (pa_cons (pv 0) (pa_cons (pe_ix (ix_listK K) (pe_lst (pa_cons (pe_callB (call_min2 rfl) (by rfl) T.b_min (by decide +kernel) (pa_cons pe_int (pa_cons (pe_op op_sub pe_int (pv 11)) pa_nil))) (pa_cons (pe_op op_sub pe_int (pv 11)) pa_nil))) (pe_c (dvs := []) O__law_draw ⟨[], .nil, B__law_draw⟩ hgd (hr.mono (by decide)) pass0At (pa_cons (pv 0) (pa_cons pe_int pa_nil))) (fun _ _ => rfl)) pa_nil)))))
      (pss_cons (ps_setLc (i := 13) (own := [("_law_name", 14)]) (g := gName 14) (by rfl) sc__law_shop.nd rfl rfl (sw_true rfl rfl rfl (by decide +kernel)) (pi_listK K (pv 3)) (blkOk_by (own := [("_law_name", 14)]) (N := nm__law_shop) (sc := defScope s__law_shop) (by decide +kernel)) (fun _ _ _ _ _ => (pg_name (i := 14) sc__law_shop.nd rfl (Or.inl rfl))) (fun _ _ _ _ _ => (pts_one (pt_cmpR op_eq (pe_c (dvs := []) O__law_draw ⟨[], .nil, B__law_draw⟩ hgd (hr.mono (by decide)) pass0At (pa_cons (pv 0) (pa_cons pe_int pa_nil))) pe_int (nomark _)))) (fun _ _ _ _ _ => (pv 14)))
      (pss_cons (ps_if (PW.pt (pw_and (pt_cmpR (op_neDK K hr.units) (pv 13) (pe_lst pa_nil) (nomark _)) (pw_and1 (pt_cmpR op_eq (pe_c (dvs := []) O__law_draw ⟨[], .nil, B__law_draw⟩ hgd (hr.mono (by decide)) pass0At (pa_cons (pv 0) (pa_cons pe_int pa_nil))) pe_int (nomark _)))))
      (pss_one (ps_expr (pe_bmK K PySem.F.plainAttrs_list PySem.F.slot_list_append PySem.F.type_list_append mt_append (pv 13) (pa_cons (pe_ix (ix_listK K) (pv 13) pe_int (fun _ _ => rfl)) pa_nil))))
      pss_nil)
      (pss_one (ps_expr (pe_bmK K PySem.F.plainAttrs_list PySem.F.slot_list_append PySem.F.type_list_append mt_append (pv 6) (pa_cons (pe_tup (pa_cons (pe_ix (ix_listK K) (pv 4) (pv 7) (fun _ _ => rfl)) (pa_cons (pv 11) (pa_cons (pv 12) (pa_cons (pe_op op_add pe_int (pe_c (dvs := []) O__law_draw ⟨[], .nil, B__law_draw⟩ hgd (hr.mono (by decide)) pass0At (pa_cons (pv 0) (pa_cons (pe_op op_mul pe_int (pv 2)) pa_nil)))) (pa_cons (pe_callTy (call_tupleK K) (by rfl) T.b_tuple (by decide +kernel) (pa_cons (pv 13) pa_nil)) pa_nil)))))) pa_nil)))))))))
      (pss_one (ps_ret (pe_tup (pa_cons (pv 5) (pa_cons (pv 6) pa_nil))))))))), ?_⟩
    exact body_ok (W := (⟨K, c.cm, tkD, [], none⟩ : Wp)) (N := nm__law_shop) (k := 3) (δ := b__law_shop)
      ((ds_seq (ds_par (da_cons (dn_callN (k := 2) (F := d__law_names) (dv := []) (fun _ _ => .nil) (dps_cons (dp_t (i := 0)) (dps_cons (dp_e dn_int) dps_nil))) (da_cons (dn_callN (k := 2) (F := d__law_names) (dv := []) (fun _ _ => .nil) (dps_cons (dp_t (i := 0)) (dps_cons (dp_e dn_int) dps_nil))) da_nil)))
      (ds_seq (ds_parOO (df_lst da_nil) (df_lst da_nil))
      (ds_seq (ds_for (g := (.nm 7)) (di_range1 (da_cons (dn_callN (k := 2) (F := d__law_draw) (dv := []) (fun _ _ => .nil) (dps_cons (dp_t (i := 0)) (dps_cons (dp_e (dn_op od_add (dn_op od_ixT (dn_v (i := 1)) dn_int) dn_int)) dps_nil))) da_nil))
      (ds_seq (ds_set (dn_op od_ixL (dn_lst (da_cons (dn_op od_add dn_int (dn_callN (k := 2) (F := d__law_draw) (dv := []) (fun _ _ => .nil) (dps_cons (dp_t (i := 0)) (dps_cons (dp_e dn_int) dps_nil)))) (da_cons dn_int da_nil))) (dn_callN (k := 2) (F := d__law_draw) (dv := []) (fun _ _ => .nil) (dps_cons (dp_t (i := 0)) (dps_cons (dp_e dn_int) dps_nil)))))
      (ds_seq (ds_set (dn_lc (t := (.nm 10)) (vs := [10]) rfl (di_range1 (da_cons (dn_v (i := 8)) da_nil)) dt_yes (dn_op od_ixL (dn_lst (da_cons dn_int (da_cons (dn_callN (k := 2) (F := d__law_draw) (dv := []) (fun _ _ => .nil) (dps_cons (dp_t (i := 0)) (dps_cons (dp_e (dn_op od_add (dn_v (i := 2)) dn_int)) dps_nil))) (da_cons (dn_v (i := 2)) da_nil)))) (dn_op od_fdiv (dn_callN (k := 2) (F := d__law_draw) (dv := []) (fun _ _ => .nil) (dps_cons (dp_t (i := 0)) (dps_cons (dp_e dn_int) dps_nil))) dn_int))))
      (ds_app (i := 5) (dn_tup (da_cons (dn_op od_ixL (dn_v (i := 3)) (dn_v (i := 7))) (da_cons (dn_cb cd_tuple (da_cons (dn_v (i := 9)) da_nil)) da_nil)))))))
      (ds_seq (ds_for (g := (.nm 7)) (di_range1 (da_cons (dn_callN (k := 2) (F := d__law_draw) (dv := []) (fun _ _ => .nil) (dps_cons (dp_t (i := 0)) (dps_cons (dp_e (dn_op od_add (dn_op od_ixT (dn_v (i := 1)) dn_int) dn_int)) dps_nil))) da_nil))
      (ds_seq (ds_set (dn_callN (k := 2) (F := d__law_draw) (dv := []) (fun _ _ => .nil) (dps_cons (dp_t (i := 0)) (dps_cons (dp_e dn_int) dps_nil))))
      (ds_seq (ds_set (dn_op od_add (dn_op od_add (dn_v (i := 11)) dn_int) (dn_callN (k := 2) (F := d__law_draw) (dv := []) (fun _ _ => .nil) (dps_cons (dp_t (i := 0)) (dps_cons (dp_e (dn_op od_ixL (dn_lst (da_cons (dn_cb cd_min2 (da_cons dn_int (da_cons (dn_op od_sub dn_int (dn_v (i := 11))) da_nil))) (da_cons (dn_op od_sub dn_int (dn_v (i := 11))) da_nil))) (dn_callN (k := 2) (F := d__law_draw) (dv := []) (fun _ _ => .nil) (dps_cons (dp_t (i := 0)) (dps_cons (dp_e dn_int) dps_nil))))) dps_nil)))))
      (ds_seq (ds_setO (df_lc (t := (.nm 14)) (vs := [14]) rfl (di_list (dn_v (i := 3))) (dt_test (dn_op od_eq (dn_callN (k := 2) (F := d__law_draw) (dv := []) (fun _ _ => .nil) (dps_cons (dp_t (i := 0)) (dps_cons (dp_e dn_int) dps_nil))) dn_int)) (dn_v (i := 14))))
      (ds_seq (ds_if (dt_and (dt_bor (i := 13) (dt_test (dn_op od_neD (dn_v (i := 13)) (dn_lst da_nil)))) (dt_test (dn_op od_eq (dn_callN (k := 2) (F := d__law_draw) (dv := []) (fun _ _ => .nil) (dps_cons (dp_t (i := 0)) (dps_cons (dp_e dn_int) dps_nil))) dn_int)))
      (ds_app (i := 13) (dn_bor (i := 13) (dn_op od_ixL (dn_v (i := 13)) dn_int)))
      ds_next)
      (ds_frz (i := 13) (ds_app (i := 6) (dn_tup (da_cons (dn_op od_ixL (dn_v (i := 4)) (dn_v (i := 7))) (da_cons (dn_v (i := 11)) (da_cons (dn_v (i := 12)) (da_cons (dn_op od_add dn_int (dn_callN (k := 2) (F := d__law_draw) (dv := []) (fun _ _ => .nil) (dps_cons (dp_t (i := 0)) (dps_cons (dp_e (dn_op od_mul dn_int (dn_v (i := 2)))) dps_nil)))) (da_cons (dn_cb cd_tuple (da_cons (dn_v (i := 13)) da_nil)) da_nil)))))))))))))
      (ds_frz (i := 6) (ds_frz (i := 5) (ds_ret (dn_tup (da_cons (dn_v (i := 5)) (da_cons (dn_v (i := 6)) da_nil))))))))))) h
end Nk50
set_option Elab.async false
set_option linter.all false
set_option maxRecDepth 100000
set_option maxHeartbeats 4000000
namespace Nk50
open PySem L2 Np
abbrev sp__law_rate (K : PySem.W.Frag) (c : Ad) : Sp := spP (⟨K, c.cm, tkD, [], none⟩ : Wp) 3 d__law_rate
theorem ok__law_rate {P : Program} {w : World} {K : PySem.W.Frag} {mg : Str → Option Value} {base : Heap} {c : Ad} {f : Addr} {fd : FuncData} (T : Txt K mg c) (F : Fun K "_law_rate" "_law_rate" s__law_rate f fd)
     : FnG P w K mg base CX0 1 f fd ps__law_rate (sp__law_rate K c) := by
  refine Fun.okG F sc__law_rate (fun vs H Q E h => ?_) (fun cdv A outer s H vs Q E hgd hr h => ?_)
  · exact h.1
  · refine ⟨_, (pss_cons (ps_set (i := 3) sc__law_rate.nd rfl (Or.inl rfl) pe_int)
      (pss_cons (ps_for PassesOwn.never rfl (pi_listK K (pv 0)) (pg_tupK (n := 2) K (by rfl) (pgs_cons (pg_name (i := 4) sc__law_rate.nd rfl (Or.inl rfl)) (pgs_cons (pg_name (i := 5) sc__law_rate.nd rfl (Or.inl rfl)) pgs_nil)))
      (pss_one (ps_if (PW.pt (pw_and (pt_cmpR op_eq (pv 4) (pv 1) (nomark _)) (pw_and1 (pt_cmpR op_inRng (pv 2) (pe_callTy cr_range1 (by rfl) T.b_range (by decide +kernel) (pa_cons (pe_callB (call_lenK K) (by rfl) T.b_len (by decide +kernel) (pa_cons (pv 5) pa_nil)) pa_nil)) (by rfl)))))
      (pss_one (ps_set (i := 3) sc__law_rate.nd rfl (Or.inl rfl) (pe_ix (ix_tupK K) (pv 5) (pv 2) (fun _ _ => rfl))))
      pss_nil)))
      (pss_one (ps_ret (pv 3))))), ?_⟩
    exact body_ok (W := (⟨K, c.cm, tkD, [], none⟩ : Wp)) (N := nm__law_rate) (k := 3) (δ := b__law_rate)
      ((ds_seq (ds_set dn_int)
      (ds_seq (ds_for (g := (.tp [(.nm 4), (.nm 5)])) (di_list (dn_v (i := 0)))
      (ds_if (dt_and (dt_test (dn_op od_eq (dn_v (i := 4)) (dn_v (i := 1)))) (dt_test (dn_inR1 (dn_v (i := 2)) (dn_cb cd_lenL (da_cons (dn_v (i := 5)) da_nil)))))
      (ds_set (dn_op od_ixT (dn_v (i := 5)) (dn_v (i := 2))))
      ds_next))
      (ds_ret (dn_v (i := 3)))))) h
abbrev sp__law_is_open (K : PySem.W.Frag) (c : Ad) : Sp := spP (⟨K, c.cm, tkD, [], none⟩ : Wp) 3 d__law_is_open
theorem ok__law_is_open {P : Program} {w : World} {K : PySem.W.Frag} {mg : Str → Option Value} {base : Heap} {c : Ad} {f : Addr} {fd : FuncData} (T : Txt K mg c) (F : Fun K "_law_is_open" "_law_is_open" s__law_is_open f fd)
     : FnG P w K mg base CX0 1 f fd ps__law_is_open (sp__law_is_open K c) := by
  refine Fun.okG F sc__law_is_open (fun vs H Q E h => ?_) (fun cdv A outer s H vs Q E hgd hr h => ?_)
  · exact h.1
  · refine ⟨_, (pss_one (ps_ret (pe_and (pe_cmpR op_inRng (pv 2) (pe_callTy cr_rng2 (by rfl) T.b_range (by decide +kernel) (pa_cons (pe_ix (ix_tupK K) (pv 0) pe_int (fun _ _ => rfl)) (pa_cons (pe_ix (ix_tupK K) (pv 0) pe_int (fun _ _ => rfl)) pa_nil))) (by rfl)) (pe_one (pe_cmpR (op_notIn_seqK K) (pv 1) (pe_ix (ix_tupK K) (pv 0) pe_int (fun _ _ => rfl)) (by rfl)))))), ?_⟩
    exact body_ok (W := (⟨K, c.cm, tkD, [], none⟩ : Wp)) (N := nm__law_is_open) (k := 3) (δ := b__law_is_open)
      ((ds_ret (dn_and (dn_inR2 (dn_v (i := 2)) (dn_op od_ixT (dn_v (i := 0)) dn_int) (dn_op od_ixT (dn_v (i := 0)) dn_int)) (dn_op od_in_seq (dn_v (i := 1)) (dn_op od_ixT (dn_v (i := 0)) dn_int))))) h
abbrev sp__law_slots (K : PySem.W.Frag) (c : Ad) : Sp := spP (⟨K, c.cm, tkD, [], none⟩ : Wp) 2 d__law_slots
theorem ok__law_slots {P : Program} {w : World} {K : PySem.W.Frag} {mg : Str → Option Value} {base : Heap} {c : Ad} {f : Addr} {fd : FuncData} (T : Txt K mg c) (F : Fun K "_law_slots" "_law_slots" s__law_slots f fd)
    {f__law_rate : Addr} {fd__law_rate : FuncData} (O__law_rate : OkG P w K mg base CX0 1 "_law_rate" ps__law_rate (sp__law_rate K c) f__law_rate fd__law_rate)
    (B__law_rate : Binds K fd__law_rate ps__law_rate [])
    {f__law_is_open : Addr} {fd__law_is_open : FuncData} (O__law_is_open : OkG P w K mg base CX0 1 "_law_is_open" ps__law_is_open (sp__law_is_open K c) f__law_is_open fd__law_is_open)
    (B__law_is_open : Binds K fd__law_is_open ps__law_is_open []) : FnG P w K mg base CX0 2 f fd ps__law_slots (sp__law_slots K c) := by
  refine Fun.okG F sc__law_slots (fun vs H Q E h => ?_) (fun cdv A outer s H vs Q E hgd hr h => ?_)
  · exact h.1
  · refine ⟨_, (pss_cons (ps_set (i := 2) sc__law_slots.nd rfl (Or.inl rfl) (pe_lst pa_nil))
      (pss_cons (ps_for PassesOwn.never rfl (pi_listK K (pe_callB (cr_srtTK K) (by rfl) T.b_sorted (by decide +kernel) (pa_cons (pe_lc (own := [("_law_name", 4), ("_law_rates", 5)]) (g := gTup K 2 (gCons (gName 4) (gCons (gName 5) gNil))) (tt := tYes) (by rfl) sc__law_slots.nd (pi_listK K (pv 0)) (blkOk_by (own := [("_law_name", 4), ("_law_rates", 5)]) (N := nm__law_slots) (sc := defScope s__law_slots) (by decide +kernel)) (fun _ _ _ _ _ => (pg_tupK (n := 2) K (by rfl) (pgs_cons (pg_name (i := 4) sc__law_slots.nd rfl (Or.inl rfl)) (pgs_cons (pg_name (i := 5) sc__law_slots.nd rfl (Or.inl rfl)) pgs_nil)))) (fun _ _ _ _ _ => pts_nil) (fun _ _ _ _ _ => (pv 4))) pa_nil))) (pg_name (i := 3) sc__law_slots.nd rfl (Or.inr rfl))
      (pss_one (ps_for PassesOwn.never rfl (pi_range1 (by rfl) T.b_range (pa_cons pe_int pa_nil)) (pg_name (i := 6) sc__law_slots.nd rfl (Or.inr rfl))
      (pss_one (ps_if (pt_cmpR op_gt (pe_c (dvs := []) O__law_rate ⟨[], .nil, B__law_rate⟩ hgd (hr.mono (by decide)) pass0At (pa_cons (pv 0) (pa_cons (pv 3) (pa_cons (pv 6) pa_nil)))) pe_int (nomark _))
      (pss_one (ps_if (pt_cmpR (op_neDK K hr.units) (pe_lc (own := [("_law_need", 7)]) (g := gName 7) (by rfl) sc__law_slots.nd (pi_listK K (pv 1)) (blkOk_by (own := [("_law_need", 7)]) (N := nm__law_slots) (sc := defScope s__law_slots) (by decide +kernel)) (fun _ _ _ _ _ => (pg_name (i := 7) sc__law_slots.nd rfl (Or.inl rfl))) (fun _ _ _ _ _ => (pts_one (pt_val (pe_c (dvs := []) O__law_is_open ⟨[], .nil, B__law_is_open⟩ hgd (hr.mono (by decide)) pass0At (pa_cons (pv 7) (pa_cons (pv 3) (pa_cons (pv 6) pa_nil))))))) (fun _ _ _ _ _ => (pv 7))) (pe_lst pa_nil) (nomark _))
      (pss_one (ps_expr (pe_bmK K PySem.F.plainAttrs_list PySem.F.slot_list_append PySem.F.type_list_append mt_append (pv 2) (pa_cons (pe_tup (pa_cons (pv 3) (pa_cons (pv 6) pa_nil))) pa_nil))))
      pss_nil))
      pss_nil)))))
      (pss_one (ps_ret (pv 2))))), ?_⟩
    exact body_ok (W := (⟨K, c.cm, tkD, [], none⟩ : Wp)) (N := nm__law_slots) (k := 2) (δ := b__law_slots)
      ((ds_seq (ds_setO (df_lst da_nil))
      (ds_seq (ds_for (g := (.nm 3)) (di_list (dn_cb cd_srtT (da_cons (dn_lc (t := (.tp [(.nm 4), (.nm 5)])) (vs := [4, 5]) rfl (di_list (dn_v (i := 0))) dt_yes (dn_v (i := 4))) da_nil)))
      (ds_for (g := (.nm 6)) (di_range1 (da_cons dn_int da_nil))
      (ds_if (dt_test (dn_op od_gt (dn_callN (k := 3) (F := d__law_rate) (dv := []) (fun _ _ => .nil) (dps_cons (dp_e (dn_v (i := 0))) (dps_cons (dp_e (dn_v (i := 3))) (dps_cons (dp_e (dn_v (i := 6))) dps_nil)))) dn_int))
      (ds_if (dt_test (dn_op od_neD (dn_lc (t := (.nm 7)) (vs := [7]) rfl (di_list (dn_v (i := 1))) (dt_b (dn_callN (k := 3) (F := d__law_is_open) (dv := []) (fun _ _ => .nil) (dps_cons (dp_e (dn_v (i := 7))) (dps_cons (dp_e (dn_v (i := 3))) (dps_cons (dp_e (dn_v (i := 6))) dps_nil))))) (dn_v (i := 7))) (dn_lst da_nil)))
      (ds_app (i := 2) (dn_tup (da_cons (dn_v (i := 3)) (da_cons (dn_v (i := 6)) da_nil))))
      ds_next)
      ds_next)))
      (ds_frz (i := 2) (ds_ret (dn_v (i := 2))))))) h
abbrev sp__law_bound (K : PySem.W.Frag) (c : Ad) : Sp := spP (⟨K, c.cm, tkD, [], none⟩ : Wp) 3 d__law_bound
theorem ok__law_bound {P : Program} {w : World} {K : PySem.W.Frag} {mg : Str → Option Value} {base : Heap} {c : Ad} {f : Addr} {fd : FuncData} (T : Txt K mg c) (F : Fun K "_law_bound" "_law_bound" s__law_bound f fd)
    {f__law_slots : Addr} {fd__law_slots : FuncData} (O__law_slots : OkG P w K mg base CX0 2 "_law_slots" ps__law_slots (sp__law_slots K c) f__law_slots fd__law_slots)
    (B__law_slots : Binds K fd__law_slots ps__law_slots [])
    {f__law_rate : Addr} {fd__law_rate : FuncData} (O__law_rate : OkG P w K mg base CX0 1 "_law_rate" ps__law_rate (sp__law_rate K c) f__law_rate fd__law_rate)
    (B__law_rate : Binds K fd__law_rate ps__law_rate []) : FnG P w K mg base CX0 3 f fd ps__law_bound (sp__law_bound K c) := by
  refine Fun.okG F sc__law_bound (fun vs H Q E h => ?_) (fun cdv A outer s H vs Q E hgd hr h => ?_)
  · exact h.1
  · refine ⟨_, (pss_cons (ps_setLc (i := 3) (own := [("_law_need", 4)]) (g := gName 4) (by rfl) sc__law_bound.nd rfl rfl (sw_true rfl rfl rfl (by decide +kernel)) (pi_listK K (pv 1)) (blkOk_by (own := [("_law_need", 4)]) (N := nm__law_bound) (sc := defScope s__law_bound) (by decide +kernel)) (fun _ _ _ _ _ => (pg_name (i := 4) sc__law_bound.nd rfl (Or.inl rfl))) (fun _ _ _ _ _ => (pts_one (pt_cmpR (op_in_seqK K) (pe_ix (ix_tupK K) (pv 4) pe_int (fun _ _ => rfl)) (pv 2) (by rfl)))) (fun _ _ _ _ _ => (pv 4)))
      (pss_cons (ps_set (i := 5) sc__law_bound.nd rfl (Or.inl rfl) pe_int)
      (pss_cons (ps_for PassesOwn.never rfl (pi_listK K (pv 3)) (pg_name (i := 4) sc__law_bound.nd rfl (Or.inl rfl))
      (pss_one (ps_set (i := 5) sc__law_bound.nd rfl (Or.inl rfl) (pe_op op_add (pv 5) (pe_ix (ix_tupK K) (pv 4) pe_int (fun _ _ => rfl))))))
      (pss_cons (ps_for PassesOwn.never rfl (pi_listK K (pe_c (dvs := []) O__law_slots ⟨[], .nil, B__law_slots⟩ hgd (hr.mono (by decide)) pass0At (pa_cons (pv 0) (pa_cons (pv 3) pa_nil)))) (pg_tupK (n := 2) K (by rfl) (pgs_cons (pg_name (i := 6) sc__law_bound.nd rfl (Or.inl rfl)) (pgs_cons (pg_name (i := 7) sc__law_bound.nd rfl (Or.inl rfl)) pgs_nil)))
      (pss_one (ps_set (i := 5) sc__law_bound.nd rfl (Or.inl rfl) (pe_op op_sub (pv 5) (pe_c (dvs := []) O__law_rate ⟨[], .nil, B__law_rate⟩ hgd (hr.mono (by decide)) pass0At (pa_cons (pv 0) (pa_cons (pv 6) (pa_cons (pv 7) pa_nil))))))))
      (pss_one (ps_ret (pv 5))))))), ?_⟩
    exact body_ok (W := (⟨K, c.cm, tkD, [], none⟩ : Wp)) (N := nm__law_bound) (k := 3) (δ := b__law_bound)
      ((ds_seq (ds_set (dn_lc (t := (.nm 4)) (vs := [4]) rfl (di_list (dn_v (i := 1))) (dt_test (dn_op od_in_seq (dn_op od_ixT (dn_v (i := 4)) dn_int) (dn_v (i := 2)))) (dn_v (i := 4))))
      (ds_seq (ds_set dn_int)
      (ds_seq (ds_for (g := (.nm 4)) (di_list (dn_v (i := 3)))
      (ds_set (dn_op od_add (dn_v (i := 5)) (dn_op od_ixT (dn_v (i := 4)) dn_int))))
      (ds_seq (ds_for (g := (.tp [(.nm 6), (.nm 7)])) (di_list (dn_callN (k := 2) (F := d__law_slots) (dv := []) (fun _ _ => .nil) (dps_cons (dp_e (dn_v (i := 0))) (dps_cons (dp_e (dn_v (i := 3))) dps_nil))))
      (ds_set (dn_op od_sub (dn_v (i := 5)) (dn_callN (k := 3) (F := d__law_rate) (dv := []) (fun _ _ => .nil) (dps_cons (dp_e (dn_v (i := 0))) (dps_cons (dp_e (dn_v (i := 6))) (dps_cons (dp_e (dn_v (i := 7))) dps_nil)))))))
      (ds_ret (dn_v (i := 5)))))))) h
end Nk50
set_option Elab.async false
set_option linter.all false
set_option maxRecDepth 100000
set_option maxHeartbeats 4000000
namespace Nk50
open PySem L2 Np
abbrev sp__law_refusal (K : PySem.W.Frag) (c : Ad) : Sp := spP (⟨K, c.cm, tkD, [], none⟩ : Wp) 1 d__law_refusal
theorem ok__law_refusal {P : Program} {w : World} {K : PySem.W.Frag} {mg : Str → Option Value} {base : Heap} {c : Ad} {f : Addr} {fd : FuncData} (T : Txt K mg c) (F : Fun K "_law_refusal" "_law_refusal" s__law_refusal f fd)
    (S_Unknown : StrC P w K mg base 1 c.Unknown ps_UnknownD_strD (sp_UnknownD_strD K c)) : FnG P w K mg base CX0 4 f fd ps__law_refusal (sp__law_refusal K c) := by
  refine Fun.okG F sc__law_refusal (fun vs H Q E h => ?_) (fun cdv A outer s H vs Q E hgd hr h => ?_)
  · exact h.1
  · refine ⟨_, (pss_cons (ps_set (i := 1) sc__law_refusal.nd rfl (Or.inl rfl) (pe_callB (call_isXT K) (by rfl) T.b_isinstance (by decide +kernel) (pa_cons (pv 0) (pa_cons (pe_tup (pa_cons (pe_glob (v := .ref c.NightError) rfl T.g_NightError rfl) (pa_cons (pe_glob (v := .ref c.NoPlace) rfl T.g_NoPlace rfl) (pa_cons (pe_glob (v := .ref c.TooMany) rfl T.g_TooMany rfl) (pa_cons (pe_glob (v := .ref c.TooLate) rfl T.g_TooLate rfl) (pa_cons (pe_glob (v := .ref c.NoCopies) rfl T.g_NoCopies rfl) (pa_cons (pe_bltn (v := .ty "ValueError") rfl T.b_ValueError (by decide +kernel) rfl) pa_nil))))))) pa_nil))))
      (pss_cons (ps_if (PW.pt (pw_or (pt_not (pt_val (pe_callB (call_isX K) (by rfl) T.b_isinstance (by decide +kernel) (pa_cons (pv 0) (pa_cons (pe_glob (v := .ref c.Unknown) rfl T.g_Unknown rfl) pa_nil))))) (pw_or (pt_not (pt_val (pe_callB (call_isX K) (by rfl) T.b_isinstance (by decide +kernel) (pa_cons (pv 0) (pa_cons (pe_bltn (v := .ty "KeyError") rfl T.b_KeyError (by decide +kernel) rfl) pa_nil))))) (pw_or1 (pt_val (pv 1))))))
      (pss_one (ps_ret (pe_tup (pa_cons pe_str pa_nil))))
      pss_nil)
      (pss_one (ps_ret (pe_tup (pa_cons pe_str (pa_cons (pe_fx K (pv 0)) (pa_cons (pe_callTy (cr_strC S_Unknown hgd (hr.mono (by decide))) (by rfl) T.b_str (by decide +kernel) (pa_cons (pv 0) pa_nil)) pa_nil)))))))), ?_⟩
    exact body_ok (W := (⟨K, c.cm, tkD, [], none⟩ : Wp)) (N := nm__law_refusal) (k := 1) (δ := b__law_refusal)
      ((ds_seq (ds_set (dn_isXT (kit := (tb "Unknown" false tb0)) (cs := [.ref c.NightError, .ref c.NoPlace, .ref c.TooMany, .ref c.TooLate, .ref c.NoCopies, .ty "ValueError"]) (.cons (.own _) (.cons (.own _) (.cons (.own _) (.cons (.own _) (.cons (.own _) (.cons (.ty _) .nil)))))) (by show 6 ≤ 1000; decide) (tb_ok ⟨by dsimp only; rw [T.cm_Unknown]; exact T.exc_Unknown, by dsimp only; rw [T.cm_Unknown]; unfold PySem.W.kitAny PySem.W.kitAny PySem.W.kitAny PySem.W.kitAny PySem.W.kitAny PySem.W.kitAny PySem.W.kitAny; rw [T.kit_Unknown_NightError, T.kit_Unknown_NoPlace, T.kit_Unknown_TooMany, T.kit_Unknown_TooLate, T.kit_Unknown_NoCopies, T.kit_Unknown_ValueError]⟩ tb0_ok) (dn_v (i := 0))))
      (ds_seq (ds_if (dt_or (dt_not (dt_b (dn_isX (kit := (tb "Unknown" true tb0)) (.own _) (tb_ok ⟨by dsimp only; rw [T.cm_Unknown]; exact T.exc_Unknown, by dsimp only; rw [T.cm_Unknown]; exact T.kit_Unknown_Unknown⟩ tb0_ok) (dn_v (i := 0))))) (dt_or (dt_not (dt_b (dn_isX (kit := (tb "Unknown" true tb0)) (.ty _) (tb_ok ⟨by dsimp only; rw [T.cm_Unknown]; exact T.exc_Unknown, by dsimp only; rw [T.cm_Unknown]; exact T.kit_Unknown_KeyError⟩ tb0_ok) (dn_v (i := 0))))) (dt_b (dn_v (i := 1)))))
      (ds_ret (dn_tup (da_cons dn_str da_nil)))
      ds_next)
      (ds_ret (dn_tup (da_cons dn_str (da_cons (dn_fx (ok := (fun (s : PySem.Str) => decide (s ∈ (["Unknown"] : List PySem.Str)))) (fun s h => by have h := of_decide_eq_true h; simp only [List.mem_cons, List.not_mem_nil, or_false] at h; subst h <;> first | exact ⟨by dsimp only; rw [T.cm_Unknown]; exact T.exc_Unknown, by dsimp only; rw [T.cm_Unknown]; exact T.no_Unknown_name⟩) (dn_v (i := 0))) (da_cons (dn_strX (F := d_UnknownD_strD) T.cm_Unknown (da_cons (dn_v (i := 0)) da_nil)) da_nil)))))))) h
abbrev sp__law_refused (K : PySem.W.Frag) (c : Ad) : Sp := spP (⟨K, c.cm, tkD, [], none⟩ : Wp) 4 d__law_refused
theorem ok__law_refused {P : Program} {w : World} {K : PySem.W.Frag} {mg : Str → Option Value} {base : Heap} {c : Ad} {f : Addr} {fd : FuncData} (T : Txt K mg c) (F : Fun K "_law_refused" "_law_refused" s__law_refused f fd)
    {f__law_refusal : Addr} {fd__law_refusal : FuncData} (O__law_refusal : OkG P w K mg base CX0 4 "_law_refusal" ps__law_refusal (sp__law_refusal K c) f__law_refusal fd__law_refusal)
    (B__law_refusal : Binds K fd__law_refusal ps__law_refusal [])
    {f_bound : Addr} {fd_bound : FuncData} (O_bound : OkG P w K mg base (L2.CX P w) 5 "bound" ps_bound (sp_bound K c) f_bound fd_bound)
    (B_bound : Binds K fd_bound ps_bound [])
    {f_slots_of : Addr} {fd_slots_of : FuncData} (O_slots_of : OkG P w K mg base (L2.CX P w) 5 "slots_of" ps_slots_of (sp_slots_of K c) f_slots_of fd_slots_of)
    (B_slots_of : Binds K fd_slots_of ps_slots_of []) : FnG P w K mg base CX0 6 f fd ps__law_refused (sp__law_refused K c) := by
  refine Fun.okG F sc__law_refused (fun vs H Q E h => ?_) (fun cdv A outer s H vs Q E hgd hr h => ?_)
  · exact h.1
  · refine ⟨_, (pss_cons (ps_set (i := 4) sc__law_refused.nd rfl (Or.inl rfl) pe_non)
      (pss_cons (ps_try_keepT (i := 5) rfl rfl rfl sc__law_refused.nd rfl rfl ⟨rfl, by decide, .inl T.g_NightError⟩ ⟨rfl, by decide, .inl T.g_NoPlace⟩ ⟨rfl, by decide, .inl T.g_TooMany⟩ ⟨rfl, by decide, .inl T.g_Unknown⟩ takes0
      (fun W pn xe tk po => (pss_one (ps_if (pt_cmpR op_eq (pv 0) pe_int (nomark _))
      (pss_one (ps_expr (pe_c (dvs := []) O_bound ⟨[], .nil, B_bound⟩ hgd (hr.mono (by decide)) (passAt tk) (pa_cons (pv 1) (pa_cons (pv 2) (pa_cons (pv 3) pa_nil))))))
      (pss_one (ps_expr (pe_c (dvs := []) O_slots_of ⟨[], .nil, B_slots_of⟩ hgd (hr.mono (by decide)) (passAt tk) (pa_cons (pv 1) (pa_cons (pv 2) (pa_cons (pv 3) pa_nil)))))))))
      (fun _ _ _ _ _ _ _ => (pss_cons (ps_set (i := 4) sc__law_refused.nd rfl (Or.inl rfl) (pv 5)) pss_nil)))
      (pss_one (ps_ret (pe_ifExp (pt_cmpR op_isN (pv 4) pe_non (nomark _)) (pe_tup (pa_cons pe_str pa_nil)) (pe_c (dvs := []) O__law_refusal ⟨[], .nil, B__law_refusal⟩ hgd (hr.mono (by decide)) pass0At (pa_cons (pv 4) pa_nil))))))), ?_⟩
    exact body_okN (W := (⟨K, c.cm, tkD, [], none⟩ : Wp)) (N := nm__law_refused) (k := 4) (δ := b__law_refused)
      ((ds_seq (ds_set dn_non)
      (ds_seq (ds_tryT (i := 5) (j := 4) (exm := (tb "Unknown" true tb0)) (by decide) (tb_ok (by dsimp only; rw [T.cm_Unknown]; exact exmAny4 T.exm_Unknown_NightError T.exm_Unknown_NoPlace T.exm_Unknown_TooMany T.exm_Unknown_Unknown) tb0_ok) (fun Wz => (ds_if (dt_test (dn_op od_eq (dn_v (i := 0)) dn_int))
      (ds_drop (dn_call (k := 3) (F := d_bound) (dv := []) (fun _ _ => .nil) (dps_cons (dp_e (dn_v (i := 1))) (dps_cons (dp_e (dn_v (i := 2))) (dps_cons (dp_e (dn_v (i := 3))) dps_nil)))))
      (ds_drop (dn_fz (df_callP (k := 3) (F := d_slots_of) (dv := []) (fun _ _ => .nil) (dps_cons (dp_e (dn_v (i := 1))) (dps_cons (dp_e (dn_v (i := 2))) (dps_cons (dp_e (dn_v (i := 3))) dps_nil)))))))))
      (ds_ret (dn_if (dt_test (dn_op od_isN (dn_v (i := 4)) dn_non)) (dn_tup (da_cons dn_str da_nil)) (dn_callN (k := 1) (F := d__law_refusal) (dv := []) (fun _ _ => .nil) (dps_cons (dp_e (dn_v (i := 4))) dps_nil))))))) h
end Nk50
set_option Elab.async false
set_option linter.all false
set_option maxRecDepth 100000
set_option maxHeartbeats 4000000
namespace Nk50
open PySem L2 Np
abbrev sp__law_right (K : PySem.W.Frag) (c : Ad) : Sp := spP (⟨K, c.cm, tkD, [], none⟩ : Wp) 3 d__law_right
theorem ok__law_right {P : Program} {w : World} {K : PySem.W.Frag} {mg : Str → Option Value} {base : Heap} {c : Ad} {f : Addr} {fd : FuncData} (T : Txt K mg c) (F : Fun K "_law_right" "_law_right" s__law_right f fd)
    {f_slots_of : Addr} {fd_slots_of : FuncData} (O_slots_of : OkG P w K mg base (L2.CX P w) 5 "slots_of" ps_slots_of (sp_slots_of K c) f_slots_of fd_slots_of)
    (B_slots_of : Binds K fd_slots_of ps_slots_of [])
    (KB_slots_of_0_names_needs_presses : KB K fd_slots_of ps_slots_of 0 ["names", "needs", "presses"] (pickL [] [.z 2, .z 1, .z 0]))
    {f__law_slots : Addr} {fd__law_slots : FuncData} (O__law_slots : OkG P w K mg base CX0 2 "_law_slots" ps__law_slots (sp__law_slots K c) f__law_slots fd__law_slots)
    (B__law_slots : Binds K fd__law_slots ps__law_slots [])
    {f_bound : Addr} {fd_bound : FuncData} (O_bound : OkG P w K mg base (L2.CX P w) 5 "bound" ps_bound (sp_bound K c) f_bound fd_bound)
    (B_bound : Binds K fd_bound ps_bound [])
    {f__law_bound : Addr} {fd__law_bound : FuncData} (O__law_bound : OkG P w K mg base CX0 3 "_law_bound" ps__law_bound (sp__law_bound K c) f__law_bound fd__law_bound)
    (B__law_bound : Binds K fd__law_bound ps__law_bound []) : FnG P w K mg base CX0 6 f fd ps__law_right (sp__law_right K c) := by
  refine Fun.okG F sc__law_right (fun vs H Q E h => ?_) (fun cdv A outer s H vs Q E hgd hr h => ?_)
  · exact h.1
  · refine ⟨_, (pss_cons (ps_set (i := 3) sc__law_right.nd rfl (Or.inl rfl) (pe_callB (call_reprA K hgd (un130 hr)) (by rfl) T.b_repr (by decide +kernel) (pa_cons (pe_tup (pa_cons (pv 0) (pa_cons (pv 1) (pa_cons (pv 2) pa_nil)))) pa_nil)))
      (pss_cons (ps_setLc (i := 4) (own := [("_law_need", 5)]) (g := gName 5) (by rfl) sc__law_right.nd rfl rfl (sw_true rfl rfl rfl (by decide +kernel)) (pi_listK K (pv 1)) (blkOk_by (own := [("_law_need", 5)]) (N := nm__law_right) (sc := defScope s__law_right) (by decide +kernel)) (fun _ _ _ _ _ => (pg_name (i := 5) sc__law_right.nd rfl (Or.inl rfl))) (fun _ _ _ _ _ => (pts_one (pt_cmpR (op_in_seqK K) (pe_ix (ix_tupK K) (pv 5) pe_int (fun _ _ => rfl)) (pv 2) (by rfl)))) (fun _ _ _ _ _ => (pv 5)))
      (pss_cons (ps_set (i := 6) sc__law_right.nd rfl (Or.inl rfl) (pe_c (dvs := []) O_slots_of ⟨[], .nil, B_slots_of⟩ hgd (hr.mono (by decide)) passLAt (pa_cons (pv 0) (pa_cons (pv 1) (pa_cons (pv 2) pa_nil)))))
      (pss_cons (ps_set (i := 7) sc__law_right.nd rfl (Or.inl rfl) (pe_c (dvs := []) O__law_slots ⟨[], .nil, B__law_slots⟩ hgd (hr.mono (by decide)) pass0At (pa_cons (pv 0) (pa_cons (pv 4) pa_nil))))
      (pss_cons (ps_if (pt_cmpR op_ne (pe_callB (call_reprA K hgd (un130 hr)) (by rfl) T.b_repr (by decide +kernel) (pa_cons (pv 6) pa_nil)) (pe_callB (call_reprA K hgd (un130 hr)) (by rfl) T.b_repr (by decide +kernel) (pa_cons (pv 7) pa_nil)) (nomark _))
      (pss_one (ps_ret pe_bl))
      pss_nil)
      (pss_cons (ps_par (i := 8) (j := 9) (by rfl) sc__law_right.nd rfl rfl (by decide) rfl rfl (pa_cons (pe_c (dvs := []) O_bound ⟨[], .nil, B_bound⟩ hgd (hr.mono (by decide)) passLAt (pa_cons (pv 0) (pa_cons (pv 1) (pa_cons (pv 2) pa_nil)))) (pa_cons (pe_c (dvs := []) O__law_bound ⟨[], .nil, B__law_bound⟩ hgd (hr.mono (by decide)) pass0At (pa_cons (pv 0) (pa_cons (pv 1) (pa_cons (pv 2) pa_nil)))) pa_nil)) (by rfl))
      (pss_cons (ps_if (pt_cmpR op_ne (pe_callB (call_reprA K hgd (un130 hr)) (by rfl) T.b_repr (by decide +kernel) (pa_cons (pv 8) pa_nil)) (pe_callB (call_reprA K hgd (un130 hr)) (by rfl) T.b_repr (by decide +kernel) (pa_cons (pv 9) pa_nil)) (nomark _))
      (pss_one (ps_ret pe_bl))
      pss_nil)
      (pss_cons (ps_expr (pe_bmK K PySem.F.plainAttrs_list PySem.F.slot_list_append PySem.F.type_list_append mt_append (pv 6) (pa_cons (pe_tup (pa_cons pe_str (pa_cons pe_int pa_nil))) pa_nil)))
      (pss_cons (ps_if (pt_cmpR op_ne (pe_callB (call_reprA K hgd (un130 hr)) (by rfl) T.b_repr (by decide +kernel) (pa_cons (pe_ck0 O_slots_of KB_slots_of_0_names_needs_presses hgd (hr.mono (by decide)) passLAt (pk_cons (pv 2) (pk_cons (pv 1) (pk_cons (pv 0) pk_nil)))) pa_nil)) (pe_callB (call_reprA K hgd (un130 hr)) (by rfl) T.b_repr (by decide +kernel) (pa_cons (pv 7) pa_nil)) (nomark _))
      (pss_one (ps_ret pe_bl))
      pss_nil)
      (pss_one (ps_ret (pe_cmpR op_eq (pe_callB (call_reprA K hgd (un130 hr)) (by rfl) T.b_repr (by decide +kernel) (pa_cons (pe_tup (pa_cons (pv 0) (pa_cons (pv 1) (pa_cons (pv 2) pa_nil)))) pa_nil)) (pv 3) (nomark _))))))))))))), ?_⟩
    exact body_ok (W := (⟨K, c.cm, tkD, [], none⟩ : Wp)) (N := nm__law_right) (k := 3) (δ := b__law_right)
      ((ds_seq (ds_set (dn_cb cd_reprA (da_cons (dn_tup (da_cons (dn_v (i := 0)) (da_cons (dn_v (i := 1)) (da_cons (dn_v (i := 2)) da_nil)))) da_nil)))
      (ds_seq (ds_set (dn_lc (t := (.nm 5)) (vs := [5]) rfl (di_list (dn_v (i := 1))) (dt_test (dn_op od_in_seq (dn_op od_ixT (dn_v (i := 5)) dn_int) (dn_v (i := 2)))) (dn_v (i := 5))))
      (ds_seq (ds_setO (df_callN (k := 3) (F := d_slots_of) (dv := []) (fun _ _ => .nil) (dps_cons (dp_e (dn_v (i := 0))) (dps_cons (dp_e (dn_v (i := 1))) (dps_cons (dp_e (dn_v (i := 2))) dps_nil)))))
      (ds_seq (ds_set (dn_callN (k := 2) (F := d__law_slots) (dv := []) (fun _ _ => .nil) (dps_cons (dp_e (dn_v (i := 0))) (dps_cons (dp_e (dn_v (i := 4))) dps_nil))))
      (ds_seq (ds_if (dt_bor (i := 6) (dt_test (dn_op od_ne (dn_cb cd_reprA (da_cons (dn_v (i := 6)) da_nil)) (dn_cb cd_reprA (da_cons (dn_v (i := 7)) da_nil)))))
      (ds_ret dn_bl)
      ds_next)
      (ds_seq (ds_par (da_cons (dn_callN (k := 3) (F := d_bound) (dv := []) (fun _ _ => .nil) (dps_cons (dp_e (dn_v (i := 0))) (dps_cons (dp_e (dn_v (i := 1))) (dps_cons (dp_e (dn_v (i := 2))) dps_nil)))) (da_cons (dn_callN (k := 3) (F := d__law_bound) (dv := []) (fun _ _ => .nil) (dps_cons (dp_e (dn_v (i := 0))) (dps_cons (dp_e (dn_v (i := 1))) (dps_cons (dp_e (dn_v (i := 2))) dps_nil)))) da_nil)))
      (ds_seq (ds_if (dt_test (dn_op od_ne (dn_cb cd_reprA (da_cons (dn_v (i := 8)) da_nil)) (dn_cb cd_reprA (da_cons (dn_v (i := 9)) da_nil))))
      (ds_ret dn_bl)
      ds_next)
      (ds_seq (ds_app (i := 6) (dn_tup (da_cons dn_str (da_cons dn_int da_nil))))
      (ds_seq (ds_if (dt_test (dn_op od_ne (dn_cb cd_reprA (da_cons (dn_fz (df_kwN (k := 3) (F := d_slots_of) (ix := [.z 2, .z 1, .z 0]) (dv := []) (fun _ _ => .nil) dps_nil (dps_cons (dp_e (dn_v (i := 2))) (dps_cons (dp_e (dn_v (i := 1))) (dps_cons (dp_e (dn_v (i := 0))) dps_nil))))) da_nil)) (dn_cb cd_reprA (da_cons (dn_v (i := 7)) da_nil))))
      (ds_ret dn_bl)
      ds_next)
      (ds_ret (dn_op od_eq (dn_cb cd_reprA (da_cons (dn_tup (da_cons (dn_v (i := 0)) (da_cons (dn_v (i := 1)) (da_cons (dn_v (i := 2)) da_nil)))) da_nil)) (dn_v (i := 3)))))))))))))) h
end Nk50
set_option Elab.async false
set_option linter.all false
set_option maxRecDepth 100000
set_option maxHeartbeats 4000000
namespace Nk50
open PySem L2 Np
abbrev sp_law (K : PySem.W.Frag) (c : Ad) : Sp := spLT K []
theorem ok_law {P : Program} {w : World} {K : PySem.W.Frag} {mg : Str → Option Value} {base : Heap} {c : Ad} {f : Addr} {fd : FuncData} (T : Txt K mg c) (F : Fun K "law" "law" s_law f fd)
    {f__law_pen : Addr} {fd__law_pen : FuncData} (O__law_pen : OkG P w K mg base CX0 1 "_law_pen" ps__law_pen (sp__law_pen K c) f__law_pen fd__law_pen)
    (B__law_pen : Binds K fd__law_pen ps__law_pen [])
    {f__law_shop : Addr} {fd__law_shop : FuncData} (O__law_shop : OkG P w K mg base CX0 3 "_law_shop" ps__law_shop (sp__law_shop K c) f__law_shop fd__law_shop)
    (B__law_shop : Binds K fd__law_shop ps__law_shop [])
    {f__law_names : Addr} {fd__law_names : FuncData} (O__law_names : OkG P w K mg base CX0 2 "_law_names" ps__law_names (sp__law_names K c) f__law_names fd__law_names)
    (B__law_names : Binds K fd__law_names ps__law_names [])
    {f__law_draw : Addr} {fd__law_draw : FuncData} (O__law_draw : OkG P w K mg base CX0 1 "_law_draw" ps__law_draw (sp__law_draw K c) f__law_draw fd__law_draw)
    (B__law_draw : Binds K fd__law_draw ps__law_draw [])
    {f_bound : Addr} {fd_bound : FuncData} (O_bound : OkG P w K mg base (L2.CX P w) 5 "bound" ps_bound (sp_bound K c) f_bound fd_bound)
    (B_bound : Binds K fd_bound ps_bound [])
    (KB_bound_0_needs_names_presses : KB K fd_bound ps_bound 0 ["needs", "names", "presses"] (pickL [] [.z 2, .z 0, .z 1]))
    {f__law_right : Addr} {fd__law_right : FuncData} (O__law_right : OkG P w K mg base CX0 6 "_law_right" ps__law_right (sp__law_right K c) f__law_right fd__law_right)
    (B__law_right : Binds K fd__law_right ps__law_right [])
    {f__law_refused : Addr} {fd__law_refused : FuncData} (O__law_refused : OkG P w K mg base CX0 6 "_law_refused" ps__law_refused (sp__law_refused K c) f__law_refused fd__law_refused)
    (B__law_refused : Binds K fd__law_refused ps__law_refused []) : FnG P w K mg base CX0 7 f fd ps_law (sp_law K c) := by
  refine Fun.okG F sc_law (fun vs H Q E h => ?_) (fun cdv A outer s H vs Q E hgd hr h => ?_)
  · obtain ⟨⟨a, ns, rfl, _⟩, _⟩ := h
    rfl
  · refine ⟨_, (pss_cons (ps_set (i := 1) sc_law.nd rfl (Or.inr rfl) (pe_c (dvs := []) O__law_pen ⟨[], .nil, B__law_pen⟩ hgd (hr.mono (by decide)) pass0At (pa_cons (pv 0) pa_nil)))
      (pss_cons (ps_for PassesOwn.never rfl (pi_range1 (by rfl) T.b_range (pa_cons pe_int pa_nil)) (pg_name (i := 2) sc_law.nd rfl (Or.inl rfl))
      (pss_cons (ps_asg (pe_c (dvs := []) O__law_shop ⟨[], .nil, B__law_shop⟩ hgd (hr.mono (by decide)) pass0At (pa_cons (pv 1) (pa_cons (pe_tup (pa_cons pe_int (pa_cons pe_int pa_nil))) (pa_cons (pe_ix (ix_listK K) (pe_lst (pa_cons pe_int (pa_cons pe_int (pa_cons pe_int pa_nil)))) (pe_c (dvs := []) O__law_draw ⟨[], .nil, B__law_draw⟩ hgd (hr.mono (by decide)) pass0At (pa_cons (pv 1) (pa_cons pe_int pa_nil))) (fun _ _ => rfl)) pa_nil)))) (pg_tupK (n := 2) K (by rfl) (pgs_cons (pg_name (i := 3) sc_law.nd rfl (Or.inl rfl)) (pgs_cons (pg_name (i := 4) sc_law.nd rfl (Or.inl rfl)) pgs_nil))))
      (pss_cons (ps_set (i := 5) sc_law.nd rfl (Or.inr rfl) (pe_lc (own := [("_law_need", 6)]) (g := gName 6) (tt := tYes) (by rfl) sc_law.nd (pi_listK K (pv 4)) (blkOk_by (own := [("_law_need", 6)]) (N := nm_law) (sc := defScope s_law) (by decide +kernel)) (fun _ _ _ _ _ => (pg_name (i := 6) sc_law.nd rfl (Or.inl rfl))) (fun _ _ _ _ _ => pts_nil) (fun _ _ _ _ _ => (pe_ix (ix_tupK K) (pv 6) pe_int (fun _ _ => rfl)))))
      (pss_cons (ps_setLc (i := 7) (own := [("_law_name", 8)]) (g := gName 8) (by rfl) sc_law.nd rfl rfl (sw_true rfl rfl rfl (by decide +kernel)) (pi_listK K (pv 5)) (blkOk_by (own := [("_law_name", 8)]) (N := nm_law) (sc := defScope s_law) (by decide +kernel)) (fun _ _ _ _ _ => (pg_name (i := 8) sc_law.nd rfl (Or.inl rfl))) (fun _ _ _ _ _ => (pts_one (pt_cmpR op_eq (pe_c (dvs := []) O__law_draw ⟨[], .nil, B__law_draw⟩ hgd (hr.mono (by decide)) pass0At (pa_cons (pv 1) (pa_cons pe_int pa_nil))) pe_int (nomark _)))) (fun _ _ _ _ _ => (pv 8)))
      (pss_cons (ps_set (i := 9) sc_law.nd rfl (Or.inl rfl) (pe_c (dvs := []) O__law_names ⟨[], .nil, B__law_names⟩ hgd (hr.mono (by decide)) pass0At (pa_cons (pv 1) (pa_cons pe_int pa_nil))))
      (pss_cons (ps_set (i := 9) sc_law.nd rfl (Or.inl rfl) (pe_slice (sl_listK K) (pe_lc (own := [("_law_name", 8)]) (g := gName 8) (by rfl) sc_law.nd (pi_listK K (pv 9)) (blkOk_by (own := [("_law_name", 8)]) (N := nm_law) (sc := defScope s_law) (by decide +kernel)) (fun _ _ _ _ _ => (pg_name (i := 8) sc_law.nd rfl (Or.inl rfl))) (fun _ _ _ _ _ => (pts_one (pt_cmpR (op_notIn_seqK K) (pv 8) (pv 5) (by rfl)))) (fun _ _ _ _ _ => (pv 8))) po_none (po_some pe_int)))
      (pss_cons (ps_set (i := 10) sc_law.nd rfl (Or.inl rfl) (pe_op op_cat (pe_revLK K (pv 7)) (pe_slice (sl_listK K) (pv 7) po_none (po_some (pe_c (dvs := []) O__law_draw ⟨[], .nil, B__law_draw⟩ hgd (hr.mono (by decide)) pass0At (pa_cons (pv 1) (pa_cons pe_int pa_nil)))))))
      (pss_cons (ps_for PassesOwn.never rfl (pi_tupK K (pe_tup (pa_cons (pe_callTy (call_tupleK K) (by rfl) T.b_tuple (by decide +kernel) (pa_cons (pv 7) pa_nil)) (pa_cons (pe_callTy (call_tupleK K) (by rfl) T.b_tuple (by decide +kernel) (pa_cons (pv 10) pa_nil)) (pa_cons (pe_tup pa_nil) (pa_cons (pe_callTy (call_tupleK K) (by rfl) T.b_tuple (by decide +kernel) (pa_cons (pv 5) pa_nil)) pa_nil)))))) (pg_name (i := 11) sc_law.nd rfl (Or.inl rfl))
      (pss_one (ps_if (pt_not (pt_val (pe_c (dvs := []) O__law_right ⟨[], .nil, B__law_right⟩ hgd (hr.mono (by decide)) pass0At (pa_cons (pv 3) (pa_cons (pv 4) (pa_cons (pv 11) pa_nil))))))
      (pss_one (ps_ret pe_bl))
      pss_nil)))
      (pss_cons (ps_if (pt_cmpR op_ne (pe_ck0 O_bound KB_bound_0_needs_names_presses hgd (hr.mono (by decide)) passLAt (pk_cons (pv 4) (pk_cons (pe_callTy (call_tupleK K) (by rfl) T.b_tuple (by decide +kernel) (pa_cons (pv 7) pa_nil)) (pk_cons (pv 3) pk_nil)))) (pe_c (dvs := []) O_bound ⟨[], .nil, B_bound⟩ hgd (hr.mono (by decide)) passLAt (pa_cons (pv 3) (pa_cons (pv 4) (pa_cons (pe_callTy (call_tupleK K) (by rfl) T.b_tuple (by decide +kernel) (pa_cons (pv 10) pa_nil)) pa_nil)))) (nomark _))
      (pss_one (ps_ret pe_bl))
      pss_nil)
      (pss_cons (ps_set (i := 12) sc_law.nd rfl (Or.inl rfl) (pe_c (dvs := []) O__law_draw ⟨[], .nil, B__law_draw⟩ hgd (hr.mono (by decide)) pass0At (pa_cons (pv 1) (pa_cons (pe_op op_add (pe_callB (call_lenK K) (by rfl) T.b_len (by decide +kernel) (pa_cons (pv 10) pa_nil)) pe_int) pa_nil))))
      (pss_cons (ps_set (i := 13) sc_law.nd rfl (Or.inl rfl) (pe_callTy (call_tupleK K) (by rfl) T.b_tuple (by decide +kernel) (pa_cons (pe_op op_cat (pe_op op_cat (pe_op op_cat (pe_slice (sl_listK K) (pv 10) po_none (po_some (pv 12))) (pe_lst (pa_cons (pe_ix (ix_listK K) (pv 9) pe_int (fun _ _ => rfl)) pa_nil))) (pe_slice (sl_listK K) (pv 10) (po_some (pv 12)) po_none)) (pe_slice (sl_listK K) (pv 9) (po_some pe_int) po_none)) pa_nil)))
      (pss_one (ps_for PassesOwn.never rfl (pi_range1 (by rfl) T.b_range (pa_cons pe_int pa_nil)) (pg_name (i := 14) sc_law.nd rfl (Or.inl rfl))
      (pss_one (ps_if (pt_cmpR (op_neDK K hr.units) (pe_c (dvs := []) O__law_refused ⟨[], .nil, B__law_refused⟩ hgd (hr.mono (by decide)) pass0At (pa_cons (pv 14) (pa_cons (pv 3) (pa_cons (pv 4) (pa_cons (pv 13) pa_nil))))) (pe_tup (pa_cons pe_str (pa_cons (pe_ix (ix_listK K) (pv 9) pe_int (fun _ _ => rfl)) (pa_cons (pe_op op_add_str pe_str (pe_ix (ix_listK K) (pv 9) pe_int (fun _ _ => rfl))) pa_nil)))) (nomark _))
      (pss_one (ps_ret pe_bl))
      pss_nil)))))))))))))))
      (pss_one (ps_ret pe_bl)))), ?_⟩
    exact law_ok (W := (⟨K, c.cm, tkD, [], none⟩ : Wp)) (N := nm_law) (i := 1) (δ := b_law_1) (fun _ _ => rfl) law_true
      ((ds_seq (ds_for (g := (.nm 2)) (di_range1 (da_cons dn_int da_nil))
      (ds_seq (ds_asgT (g := (.tp [(.nm 3), (.nm 4)])) (dn_callN (k := 3) (F := d__law_shop) (dv := []) (fun _ _ => .nil) (dps_cons (dp_t (i := 1)) (dps_cons (dp_e (dn_tup (da_cons dn_int (da_cons dn_int da_nil)))) (dps_cons (dp_e (dn_op od_ixL (dn_lst (da_cons dn_int (da_cons dn_int (da_cons dn_int da_nil)))) (dn_callN (k := 2) (F := d__law_draw) (dv := []) (fun _ _ => .nil) (dps_cons (dp_t (i := 1)) (dps_cons (dp_e dn_int) dps_nil))))) dps_nil)))))
      (ds_seq (ds_set (dn_lc (t := (.nm 6)) (vs := [6]) rfl (di_list (dn_v (i := 4))) dt_yes (dn_op od_ixT (dn_v (i := 6)) dn_int)))
      (ds_seq (ds_set (dn_lc (t := (.nm 8)) (vs := [8]) rfl (di_list (dn_v (i := 5))) (dt_test (dn_op od_eq (dn_callN (k := 2) (F := d__law_draw) (dv := []) (fun _ _ => .nil) (dps_cons (dp_t (i := 1)) (dps_cons (dp_e dn_int) dps_nil))) dn_int)) (dn_v (i := 8))))
      (ds_seq (ds_set (dn_callN (k := 2) (F := d__law_names) (dv := []) (fun _ _ => .nil) (dps_cons (dp_t (i := 1)) (dps_cons (dp_e dn_int) dps_nil))))
      (ds_seq (ds_set (dn_slice sd_list (dn_lc (t := (.nm 8)) (vs := [8]) rfl (di_list (dn_v (i := 9))) (dt_test (dn_op od_in_seq (dn_v (i := 8)) (dn_v (i := 5)))) (dn_v (i := 8))) do_none (do_some dn_int)))
      (ds_seq (ds_set (dn_op od_cat (dn_revL (dn_v (i := 7))) (dn_slice sd_list (dn_v (i := 7)) do_none (do_some (dn_callN (k := 2) (F := d__law_draw) (dv := []) (fun _ _ => .nil) (dps_cons (dp_t (i := 1)) (dps_cons (dp_e dn_int) dps_nil)))))))
      (ds_seq (ds_for (g := (.nm 11)) (di_tup (dn_tup (da_cons (dn_cb cd_tuple (da_cons (dn_v (i := 7)) da_nil)) (da_cons (dn_cb cd_tuple (da_cons (dn_v (i := 10)) da_nil)) (da_cons (dn_tup da_nil) (da_cons (dn_cb cd_tuple (da_cons (dn_v (i := 5)) da_nil)) da_nil))))))
      (ds_if (dt_not (dt_b (dn_callN (k := 3) (F := d__law_right) (dv := []) (fun _ _ => .nil) (dps_cons (dp_e (dn_v (i := 3))) (dps_cons (dp_e (dn_v (i := 4))) (dps_cons (dp_e (dn_v (i := 11))) dps_nil))))))
      (ds_ret dn_bl)
      ds_next))
      (ds_seq (ds_if (dt_test (dn_op od_ne (dn_kwN (k := 3) (F := d_bound) (ix := [.z 2, .z 0, .z 1]) (dv := []) (fun _ _ => .nil) dps_nil (dps_cons (dp_e (dn_v (i := 4))) (dps_cons (dp_e (dn_cb cd_tuple (da_cons (dn_v (i := 7)) da_nil))) (dps_cons (dp_e (dn_v (i := 3))) dps_nil)))) (dn_callN (k := 3) (F := d_bound) (dv := []) (fun _ _ => .nil) (dps_cons (dp_e (dn_v (i := 3))) (dps_cons (dp_e (dn_v (i := 4))) (dps_cons (dp_e (dn_cb cd_tuple (da_cons (dn_v (i := 10)) da_nil))) dps_nil))))))
      (ds_ret dn_bl)
      ds_next)
      (ds_seq (ds_set (dn_callN (k := 2) (F := d__law_draw) (dv := []) (fun _ _ => .nil) (dps_cons (dp_t (i := 1)) (dps_cons (dp_e (dn_op od_add (dn_cb cd_lenL (da_cons (dn_v (i := 10)) da_nil)) dn_int)) dps_nil))))
      (ds_seq (ds_set (dn_cb cd_tuple (da_cons (dn_op od_cat (dn_op od_cat (dn_op od_cat (dn_slice sd_list (dn_v (i := 10)) do_none (do_some (dn_v (i := 12)))) (dn_lst (da_cons (dn_op od_ixL (dn_v (i := 9)) dn_int) da_nil))) (dn_slice sd_list (dn_v (i := 10)) (do_some (dn_v (i := 12))) do_none)) (dn_slice sd_list (dn_v (i := 9)) (do_some dn_int) do_none)) da_nil)))
      (ds_for (g := (.nm 14)) (di_range1 (da_cons dn_int da_nil))
      (ds_if (dt_test (dn_op od_neD (dn_callN (k := 4) (F := d__law_refused) (dv := []) (fun _ _ => .nil) (dps_cons (dp_e (dn_v (i := 14))) (dps_cons (dp_e (dn_v (i := 3))) (dps_cons (dp_e (dn_v (i := 4))) (dps_cons (dp_e (dn_v (i := 13))) dps_nil))))) (dn_tup (da_cons dn_str (da_cons (dn_op od_ixL (dn_v (i := 9)) dn_int) (da_cons (dn_op od_add_str dn_str (dn_op od_ixL (dn_v (i := 9)) dn_int)) da_nil))))))
      (ds_ret dn_bl)
      ds_next)))))))))))))
      (ds_ret dn_bl))) (fun p hp => LamX.TabS.nil (h.2 p hp)) h.1
end Nk50
set_option Elab.async false
set_option linter.all false
set_option maxRecDepth 100000
set_option maxHeartbeats 4000000
namespace Nk50
open PySem L2 Np
theorem all_mk {l : PySem.W.OpenLaw} {w : World} {K : PySem.W.Frag} {h : Heap} {mg : Str → Option Value} {fa : Addr} {f_rate_at f_is_open f_need_of f_picked f_open_slots f_slots_of f_bound f__law_pen f__law_draw f__law_names f__law_shop f__law_rate f__law_is_open f__law_slots f__law_bound f__law_refusal f__law_refused f__law_right f_law f_UnknownD_initD f_UnknownD_strD : Addr} {C_NightError C_Unknown C_NoPlace C_TooMany C_TooLate C_NoCopies : Addr}
    (X : K.In h) (G : h.Ns mainGlobals mg) (hfa : mg "law" = some (.ref fa))
    {od_rate_at an_rate_at od_is_open an_is_open od_need_of an_need_of od_picked an_picked od_open_slots an_open_slots od_slots_of an_slots_of od_bound an_bound od__law_pen an__law_pen od__law_draw an__law_draw od__law_names an__law_names od__law_shop an__law_shop od__law_rate an__law_rate od__law_is_open an__law_is_open od__law_slots an__law_slots od__law_bound an__law_bound od__law_refusal an__law_refusal od__law_refused an__law_refused od__law_right an__law_right od_law an_law od_UnknownD_initD an_UnknownD_initD od_UnknownD_strD an_UnknownD_strD : Option Addr} {sl_rate_at sl_is_open sl_need_of sl_picked sl_open_slots sl_slots_of sl_bound sl__law_pen sl__law_draw sl__law_names sl__law_shop sl__law_rate sl__law_is_open sl__law_slots sl__law_bound sl__law_refusal sl__law_refused sl__law_right sl_law sl_UnknownD_initD sl_UnknownD_strD : Array (Option Value)}
    {oc_rate_at kV_rate_at dc_rate_at pm_rate_at cd_rate_at ct_rate_at oc_is_open kV_is_open dc_is_open pm_is_open cd_is_open ct_is_open oc_need_of kV_need_of dc_need_of pm_need_of cd_need_of ct_need_of oc_picked kV_picked dc_picked pm_picked cd_picked ct_picked oc_open_slots kV_open_slots dc_open_slots pm_open_slots cd_open_slots ct_open_slots oc_slots_of kV_slots_of dc_slots_of pm_slots_of cd_slots_of ct_slots_of oc_bound kV_bound dc_bound pm_bound cd_bound ct_bound oc__law_pen kV__law_pen dc__law_pen pm__law_pen cd__law_pen ct__law_pen oc__law_draw kV__law_draw dc__law_draw pm__law_draw cd__law_draw ct__law_draw oc__law_names kV__law_names dc__law_names pm__law_names cd__law_names ct__law_names oc__law_shop kV__law_shop dc__law_shop pm__law_shop cd__law_shop ct__law_shop oc__law_rate kV__law_rate dc__law_rate pm__law_rate cd__law_rate ct__law_rate oc__law_is_open kV__law_is_open dc__law_is_open pm__law_is_open cd__law_is_open ct__law_is_open oc__law_slots kV__law_slots dc__law_slots pm__law_slots cd__law_slots ct__law_slots oc__law_bound kV__law_bound dc__law_bound pm__law_bound cd__law_bound ct__law_bound oc__law_refusal kV__law_refusal dc__law_refusal pm__law_refusal cd__law_refusal ct__law_refusal oc__law_refused kV__law_refused dc__law_refused pm__law_refused cd__law_refused ct__law_refused oc__law_right kV__law_right dc__law_right pm__law_right cd__law_right ct__law_right oc_law kV_law dc_law pm_law cd_law ct_law oc_UnknownD_initD kV_UnknownD_initD dc_UnknownD_initD pm_UnknownD_initD cd_UnknownD_initD ct_UnknownD_initD oc_UnknownD_strD kV_UnknownD_strD dc_UnknownD_strD pm_UnknownD_strD cd_UnknownD_strD ct_UnknownD_strD : Value}
    (a_rate_at : PySem.W.nsIn K mainGlobals "rate_at" = some (some (.ref f_rate_at)))
    (a_is_open : PySem.W.nsIn K mainGlobals "is_open" = some (some (.ref f_is_open)))
    (a_need_of : PySem.W.nsIn K mainGlobals "need_of" = some (some (.ref f_need_of)))
    (a_picked : PySem.W.nsIn K mainGlobals "picked" = some (some (.ref f_picked)))
    (a_open_slots : PySem.W.nsIn K mainGlobals "open_slots" = some (some (.ref f_open_slots)))
    (a_slots_of : PySem.W.nsIn K mainGlobals "slots_of" = some (some (.ref f_slots_of)))
    (a_bound : PySem.W.nsIn K mainGlobals "bound" = some (some (.ref f_bound)))
    (a__law_pen : PySem.W.nsIn K mainGlobals "_law_pen" = some (some (.ref f__law_pen)))
    (a__law_draw : PySem.W.nsIn K mainGlobals "_law_draw" = some (some (.ref f__law_draw)))
    (a__law_names : PySem.W.nsIn K mainGlobals "_law_names" = some (some (.ref f__law_names)))
    (a__law_shop : PySem.W.nsIn K mainGlobals "_law_shop" = some (some (.ref f__law_shop)))
    (a__law_rate : PySem.W.nsIn K mainGlobals "_law_rate" = some (some (.ref f__law_rate)))
    (a__law_is_open : PySem.W.nsIn K mainGlobals "_law_is_open" = some (some (.ref f__law_is_open)))
    (a__law_slots : PySem.W.nsIn K mainGlobals "_law_slots" = some (some (.ref f__law_slots)))
    (a__law_bound : PySem.W.nsIn K mainGlobals "_law_bound" = some (some (.ref f__law_bound)))
    (a__law_refusal : PySem.W.nsIn K mainGlobals "_law_refusal" = some (some (.ref f__law_refusal)))
    (a__law_refused : PySem.W.nsIn K mainGlobals "_law_refused" = some (some (.ref f__law_refused)))
    (a__law_right : PySem.W.nsIn K mainGlobals "_law_right" = some (some (.ref f__law_right)))
    (a_law : PySem.W.nsIn K mainGlobals "law" = some (some (.ref f_law)))
    (a_NightError : PySem.W.nsIn K mainGlobals "NightError" = some (some (.ref C_NightError)))
    (a_Unknown : PySem.W.nsIn K mainGlobals "Unknown" = some (some (.ref C_Unknown)))
    (a_NoPlace : PySem.W.nsIn K mainGlobals "NoPlace" = some (some (.ref C_NoPlace)))
    (a_TooMany : PySem.W.nsIn K mainGlobals "TooMany" = some (some (.ref C_TooMany)))
    (a_TooLate : PySem.W.nsIn K mainGlobals "TooLate" = some (some (.ref C_TooLate)))
    (a_NoCopies : PySem.W.nsIn K mainGlobals "NoCopies" = some (some (.ref C_NoCopies)))
    (l_rate_at : K.lookup f_rate_at = some ⟨oc_rate_at, od_rate_at, .func (PySem.W.fnOf "rate_at" "rate_at" (defArgs s_rate_at) (defBody s_rate_at) (defScope s_rate_at) .none kV_rate_at dc_rate_at pm_rate_at an_rate_at cd_rate_at ct_rate_at), sl_rate_at⟩)
    (c_rate_at : PySem.W.codeIn K cd_rate_at "rate_at" = true)
    (k_rate_at : PySem.W.keepIn K (.ref f_rate_at) = true)
    (l_is_open : K.lookup f_is_open = some ⟨oc_is_open, od_is_open, .func (PySem.W.fnOf "is_open" "is_open" (defArgs s_is_open) (defBody s_is_open) (defScope s_is_open) .none kV_is_open dc_is_open pm_is_open an_is_open cd_is_open ct_is_open), sl_is_open⟩)
    (c_is_open : PySem.W.codeIn K cd_is_open "is_open" = true)
    (k_is_open : PySem.W.keepIn K (.ref f_is_open) = true)
    (l_need_of : K.lookup f_need_of = some ⟨oc_need_of, od_need_of, .func (PySem.W.fnOf "need_of" "need_of" (defArgs s_need_of) (defBody s_need_of) (defScope s_need_of) .none kV_need_of dc_need_of pm_need_of an_need_of cd_need_of ct_need_of), sl_need_of⟩)
    (c_need_of : PySem.W.codeIn K cd_need_of "need_of" = true)
    (k_need_of : PySem.W.keepIn K (.ref f_need_of) = true)
    (l_picked : K.lookup f_picked = some ⟨oc_picked, od_picked, .func (PySem.W.fnOf "picked" "picked" (defArgs s_picked) (defBody s_picked) (defScope s_picked) .none kV_picked dc_picked pm_picked an_picked cd_picked ct_picked), sl_picked⟩)
    (c_picked : PySem.W.codeIn K cd_picked "picked" = true)
    (k_picked : PySem.W.keepIn K (.ref f_picked) = true)
    (l_open_slots : K.lookup f_open_slots = some ⟨oc_open_slots, od_open_slots, .func (PySem.W.fnOf "open_slots" "open_slots" (defArgs s_open_slots) (defBody s_open_slots) (defScope s_open_slots) .none kV_open_slots dc_open_slots pm_open_slots an_open_slots cd_open_slots ct_open_slots), sl_open_slots⟩)
    (c_open_slots : PySem.W.codeIn K cd_open_slots "open_slots" = true)
    (k_open_slots : PySem.W.keepIn K (.ref f_open_slots) = true)
    (l_slots_of : K.lookup f_slots_of = some ⟨oc_slots_of, od_slots_of, .func (PySem.W.fnOf "slots_of" "slots_of" (defArgs s_slots_of) (defBody s_slots_of) (defScope s_slots_of) .none kV_slots_of dc_slots_of pm_slots_of an_slots_of cd_slots_of ct_slots_of), sl_slots_of⟩)
    (c_slots_of : PySem.W.codeIn K cd_slots_of "slots_of" = true)
    (k_slots_of : PySem.W.keepIn K (.ref f_slots_of) = true)
    (l_bound : K.lookup f_bound = some ⟨oc_bound, od_bound, .func (PySem.W.fnOf "bound" "bound" (defArgs s_bound) (defBody s_bound) (defScope s_bound) .none kV_bound dc_bound pm_bound an_bound cd_bound ct_bound), sl_bound⟩)
    (c_bound : PySem.W.codeIn K cd_bound "bound" = true)
    (k_bound : PySem.W.keepIn K (.ref f_bound) = true)
    (l__law_pen : K.lookup f__law_pen = some ⟨oc__law_pen, od__law_pen, .func (PySem.W.fnOf "_law_pen" "_law_pen" (defArgs s__law_pen) (defBody s__law_pen) (defScope s__law_pen) .none kV__law_pen dc__law_pen pm__law_pen an__law_pen cd__law_pen ct__law_pen), sl__law_pen⟩)
    (c__law_pen : PySem.W.codeIn K cd__law_pen "_law_pen" = true)
    (k__law_pen : PySem.W.keepIn K (.ref f__law_pen) = true)
    (l__law_draw : K.lookup f__law_draw = some ⟨oc__law_draw, od__law_draw, .func (PySem.W.fnOf "_law_draw" "_law_draw" (defArgs s__law_draw) (defBody s__law_draw) (defScope s__law_draw) .none kV__law_draw dc__law_draw pm__law_draw an__law_draw cd__law_draw ct__law_draw), sl__law_draw⟩)
    (c__law_draw : PySem.W.codeIn K cd__law_draw "_law_draw" = true)
    (k__law_draw : PySem.W.keepIn K (.ref f__law_draw) = true)
    (l__law_names : K.lookup f__law_names = some ⟨oc__law_names, od__law_names, .func (PySem.W.fnOf "_law_names" "_law_names" (defArgs s__law_names) (defBody s__law_names) (defScope s__law_names) .none kV__law_names dc__law_names pm__law_names an__law_names cd__law_names ct__law_names), sl__law_names⟩)
    (c__law_names : PySem.W.codeIn K cd__law_names "_law_names" = true)
    (k__law_names : PySem.W.keepIn K (.ref f__law_names) = true)
    (l__law_shop : K.lookup f__law_shop = some ⟨oc__law_shop, od__law_shop, .func (PySem.W.fnOf "_law_shop" "_law_shop" (defArgs s__law_shop) (defBody s__law_shop) (defScope s__law_shop) .none kV__law_shop dc__law_shop pm__law_shop an__law_shop cd__law_shop ct__law_shop), sl__law_shop⟩)
    (c__law_shop : PySem.W.codeIn K cd__law_shop "_law_shop" = true)
    (k__law_shop : PySem.W.keepIn K (.ref f__law_shop) = true)
    (l__law_rate : K.lookup f__law_rate = some ⟨oc__law_rate, od__law_rate, .func (PySem.W.fnOf "_law_rate" "_law_rate" (defArgs s__law_rate) (defBody s__law_rate) (defScope s__law_rate) .none kV__law_rate dc__law_rate pm__law_rate an__law_rate cd__law_rate ct__law_rate), sl__law_rate⟩)
    (c__law_rate : PySem.W.codeIn K cd__law_rate "_law_rate" = true)
    (k__law_rate : PySem.W.keepIn K (.ref f__law_rate) = true)
    (l__law_is_open : K.lookup f__law_is_open = some ⟨oc__law_is_open, od__law_is_open, .func (PySem.W.fnOf "_law_is_open" "_law_is_open" (defArgs s__law_is_open) (defBody s__law_is_open) (defScope s__law_is_open) .none kV__law_is_open dc__law_is_open pm__law_is_open an__law_is_open cd__law_is_open ct__law_is_open), sl__law_is_open⟩)
    (c__law_is_open : PySem.W.codeIn K cd__law_is_open "_law_is_open" = true)
    (k__law_is_open : PySem.W.keepIn K (.ref f__law_is_open) = true)
    (l__law_slots : K.lookup f__law_slots = some ⟨oc__law_slots, od__law_slots, .func (PySem.W.fnOf "_law_slots" "_law_slots" (defArgs s__law_slots) (defBody s__law_slots) (defScope s__law_slots) .none kV__law_slots dc__law_slots pm__law_slots an__law_slots cd__law_slots ct__law_slots), sl__law_slots⟩)
    (c__law_slots : PySem.W.codeIn K cd__law_slots "_law_slots" = true)
    (k__law_slots : PySem.W.keepIn K (.ref f__law_slots) = true)
    (l__law_bound : K.lookup f__law_bound = some ⟨oc__law_bound, od__law_bound, .func (PySem.W.fnOf "_law_bound" "_law_bound" (defArgs s__law_bound) (defBody s__law_bound) (defScope s__law_bound) .none kV__law_bound dc__law_bound pm__law_bound an__law_bound cd__law_bound ct__law_bound), sl__law_bound⟩)
    (c__law_bound : PySem.W.codeIn K cd__law_bound "_law_bound" = true)
    (k__law_bound : PySem.W.keepIn K (.ref f__law_bound) = true)
    (l__law_refusal : K.lookup f__law_refusal = some ⟨oc__law_refusal, od__law_refusal, .func (PySem.W.fnOf "_law_refusal" "_law_refusal" (defArgs s__law_refusal) (defBody s__law_refusal) (defScope s__law_refusal) .none kV__law_refusal dc__law_refusal pm__law_refusal an__law_refusal cd__law_refusal ct__law_refusal), sl__law_refusal⟩)
    (c__law_refusal : PySem.W.codeIn K cd__law_refusal "_law_refusal" = true)
    (k__law_refusal : PySem.W.keepIn K (.ref f__law_refusal) = true)
    (l__law_refused : K.lookup f__law_refused = some ⟨oc__law_refused, od__law_refused, .func (PySem.W.fnOf "_law_refused" "_law_refused" (defArgs s__law_refused) (defBody s__law_refused) (defScope s__law_refused) .none kV__law_refused dc__law_refused pm__law_refused an__law_refused cd__law_refused ct__law_refused), sl__law_refused⟩)
    (c__law_refused : PySem.W.codeIn K cd__law_refused "_law_refused" = true)
    (k__law_refused : PySem.W.keepIn K (.ref f__law_refused) = true)
    (l__law_right : K.lookup f__law_right = some ⟨oc__law_right, od__law_right, .func (PySem.W.fnOf "_law_right" "_law_right" (defArgs s__law_right) (defBody s__law_right) (defScope s__law_right) .none kV__law_right dc__law_right pm__law_right an__law_right cd__law_right ct__law_right), sl__law_right⟩)
    (c__law_right : PySem.W.codeIn K cd__law_right "_law_right" = true)
    (k__law_right : PySem.W.keepIn K (.ref f__law_right) = true)
    (l_law : K.lookup f_law = some ⟨oc_law, od_law, .func (PySem.W.fnOf "law" "law" (defArgs s_law) (defBody s_law) (defScope s_law) .none kV_law dc_law pm_law an_law cd_law ct_law), sl_law⟩)
    (c_law : PySem.W.codeIn K cd_law "law" = true)
    (k_law : PySem.W.keepIn K (.ref f_law) = true)
    (fi_UnknownD_initD : PySem.W.findIn K (.ref C_Unknown) "__init__" = some (some (.ref f_UnknownD_initD)))
    (ft_UnknownD_initD : PySem.W.typeIn K (.ref f_UnknownD_initD) = some (.type "function"))
    (l_UnknownD_initD : K.lookup f_UnknownD_initD = some ⟨oc_UnknownD_initD, od_UnknownD_initD, .func (PySem.W.fnOf "__init__" "Unknown.__init__" (defArgs s_UnknownD_initD) (defBody s_UnknownD_initD) (defScope s_UnknownD_initD) .none kV_UnknownD_initD dc_UnknownD_initD pm_UnknownD_initD an_UnknownD_initD cd_UnknownD_initD ct_UnknownD_initD), sl_UnknownD_initD⟩)
    (c_UnknownD_initD : PySem.W.codeIn K cd_UnknownD_initD "Unknown.__init__" = true)
    (k_UnknownD_initD : PySem.W.keepIn K (.ref f_UnknownD_initD) = true)
    (fi_UnknownD_strD : PySem.W.findIn K (.ref C_Unknown) "__str__" = some (some (.ref f_UnknownD_strD)))
    (xf_UnknownD_strD : PySem.W.isFn K (.ref f_UnknownD_strD) = true)
    (ft_UnknownD_strD : PySem.W.typeIn K (.ref f_UnknownD_strD) = some (.type "function"))
    (l_UnknownD_strD : K.lookup f_UnknownD_strD = some ⟨oc_UnknownD_strD, od_UnknownD_strD, .func (PySem.W.fnOf "__str__" "Unknown.__str__" (defArgs s_UnknownD_strD) (defBody s_UnknownD_strD) (defScope s_UnknownD_strD) .none kV_UnknownD_strD dc_UnknownD_strD pm_UnknownD_strD an_UnknownD_strD cd_UnknownD_strD ct_UnknownD_strD), sl_UnknownD_strD⟩)
    (c_UnknownD_strD : PySem.W.codeIn K cd_UnknownD_strD "Unknown.__str__" = true)
    (k_UnknownD_strD : PySem.W.keepIn K (.ref f_UnknownD_strD) = true)
    (z_IndexError : PySem.W.nsIn K mainGlobals "IndexError" = some none)
    (z_KeyError : PySem.W.nsIn K mainGlobals "KeyError" = some none)
    (z_OverflowError : PySem.W.nsIn K mainGlobals "OverflowError" = some none)
    (z_RuntimeError : PySem.W.nsIn K mainGlobals "RuntimeError" = some none)
    (z_ValueError : PySem.W.nsIn K mainGlobals "ValueError" = some none)
    (z_ZeroDivisionError : PySem.W.nsIn K mainGlobals "ZeroDivisionError" = some none)
    (z_abs : PySem.W.nsIn K mainGlobals "abs" = some none)
    (z_any : PySem.W.nsIn K mainGlobals "any" = some none)
    (z_enumerate : PySem.W.nsIn K mainGlobals "enumerate" = some none)
    (z_isinstance : PySem.W.nsIn K mainGlobals "isinstance" = some none)
    (z_len : PySem.W.nsIn K mainGlobals "len" = some none)
    (z_list : PySem.W.nsIn K mainGlobals "list" = some none)
    (z_max : PySem.W.nsIn K mainGlobals "max" = some none)
    (z_min : PySem.W.nsIn K mainGlobals "min" = some none)
    (z_range : PySem.W.nsIn K mainGlobals "range" = some none)
    (z_repr : PySem.W.nsIn K mainGlobals "repr" = some none)
    (z_sorted : PySem.W.nsIn K mainGlobals "sorted" = some none)
    (z_str : PySem.W.nsIn K mainGlobals "str" = some none)
    (z_sum : PySem.W.nsIn K mainGlobals "sum" = some none)
    (z_tuple : PySem.W.nsIn K mainGlobals "tuple" = some none)
    {nm_Unknown q_Unknown : Str} {N_Unknown : Addr} {bs1_Unknown bm_Unknown sub_Unknown : List Value} {sn_Unknown : List Str} {ab_Unknown : Bool} {col_Unknown : Option Bool} {dd_Unknown : Option Addr} {m0_Unknown m1_Unknown m2_Unknown m3_Unknown m5_Unknown : Option Value}
    (xl_Unknown : K.lookup C_Unknown = some (excClassObj nm_Unknown q_Unknown C_Unknown N_Unknown bs1_Unknown bm_Unknown true sn_Unknown sub_Unknown ab_Unknown col_Unknown dd_Unknown m0_Unknown m1_Unknown m2_Unknown m3_Unknown m5_Unknown bKey.newId))
    (xr_Unknown : PySem.W.excTail bKey.bm bm_Unknown = true)
    (bi_Unknown : PySem.W.findCls K (.type bKey.B) (.type "type") "__init__" = some (.val (.builtin bKey.initId)))
    (xs_Unknown : PySem.W.findIn K (.ref C_Unknown) "__setattr__" = some (some (.builtin "object.__setattr__")))
    (xe_Unknown : PySem.W.subIn K (.ref C_Unknown) (.type "BaseException") = some true)
    (xt_Unknown : PySem.W.typeIn K (.ref C_Unknown) = some (.type "type"))
    (xk_Unknown : PySem.W.keepIn K (.ref C_Unknown) = true)
    (eg_Unknown : PySem.W.findIn K (.ref C_Unknown) "__getattribute__" = some (some (.builtin "BaseException.__getattribute__")))
    (ek_Unknown : PySem.W.findIn K (.ref C_Unknown) "__getattr__" = some none)
    (ed_Unknown : PySem.W.hasDictIn K C_Unknown = true)
    (ea_Unknown : PySem.W.findIn K (.ref C_Unknown) "__class__" = some (some (.builtin "object.__class__")))
    (en_Unknown : PySem.W.specialIn K (.builtin "object.__class__") "__get__" = some (some (.builtin "getset_descriptor.__get__")))
    (et_Unknown : PySem.W.takesIn K (.builtin "object.__class__") = some true)
    (em_Unknown : PySem.W.mroIn K C_Unknown (.type "object") = some true)
    (no_Unknown_name : PySem.W.findIn K (.ref C_Unknown) "name" = some none)
    (mm_Unknown_NightError : PySem.W.exmOne K (.ref C_Unknown) (.ref C_NightError) = some false)
    (mm_Unknown_NoPlace : PySem.W.exmOne K (.ref C_Unknown) (.ref C_NoPlace) = some false)
    (mm_Unknown_TooMany : PySem.W.exmOne K (.ref C_Unknown) (.ref C_TooMany) = some false)
    (mm_Unknown_Unknown : PySem.W.exmOne K (.ref C_Unknown) (.ref C_Unknown) = some true)
    (kk_Unknown_NightError : PySem.W.kitOne K (.ref C_Unknown) (.ref C_NightError) = some false)
    (kk_Unknown_NoPlace : PySem.W.kitOne K (.ref C_Unknown) (.ref C_NoPlace) = some false)
    (kk_Unknown_TooMany : PySem.W.kitOne K (.ref C_Unknown) (.ref C_TooMany) = some false)
    (kk_Unknown_TooLate : PySem.W.kitOne K (.ref C_Unknown) (.ref C_TooLate) = some false)
    (kk_Unknown_NoCopies : PySem.W.kitOne K (.ref C_Unknown) (.ref C_NoCopies) = some false)
    (kk_Unknown_ValueError : PySem.W.kitOne K (.ref C_Unknown) (.type "ValueError") = some false)
    (kk_Unknown_Unknown : PySem.W.kitOne K (.ref C_Unknown) (.ref C_Unknown) = some true)
    (kk_Unknown_KeyError : PySem.W.kitOne K (.ref C_Unknown) (.type "KeyError") = some true)
    : ∃ (c : Ad) (fd : FuncData), (∀ (s : Shared) (v : Value), BindsTo s fd ⟨[v], []⟩ [("_law_script", v)]) ∧ ∀ base : Heap, K.In base → base.Ns mainGlobals mg → FnG l.prog w K mg base CX0 7 fa fd ["_law_script"] (sp_law K c) := by
  have e := hfa.symm.trans (PySem.W.mg_of X G a_law)
  cases e
  have T : Txt K mg (⟨C_NightError, C_Unknown, C_NoPlace, C_TooMany, C_TooLate, C_NoCopies, (fun x => if x = "NightError" then C_NightError else if x = "Unknown" then C_Unknown else if x = "NoPlace" then C_NoPlace else if x = "TooMany" then C_TooMany else if x = "TooLate" then C_TooLate else if x = "NoCopies" then C_NoCopies else 0)⟩ : Ad) := ⟨PySem.W.mg_none_of X G z_IndexError, PySem.W.mg_none_of X G z_KeyError, PySem.W.mg_none_of X G z_OverflowError, PySem.W.mg_none_of X G z_RuntimeError, PySem.W.mg_none_of X G z_ValueError, PySem.W.mg_none_of X G z_ZeroDivisionError, PySem.W.mg_none_of X G z_abs, PySem.W.mg_none_of X G z_any, PySem.W.mg_none_of X G z_enumerate, PySem.W.mg_none_of X G z_isinstance, PySem.W.mg_none_of X G z_len, PySem.W.mg_none_of X G z_list, PySem.W.mg_none_of X G z_max, PySem.W.mg_none_of X G z_min, PySem.W.mg_none_of X G z_range, PySem.W.mg_none_of X G z_repr, PySem.W.mg_none_of X G z_sorted, PySem.W.mg_none_of X G z_str, PySem.W.mg_none_of X G z_sum, PySem.W.mg_none_of X G z_tuple, PySem.W.mg_of X G a_NightError, PySem.W.mg_of X G a_Unknown, PySem.W.mg_of X G a_NoPlace, PySem.W.mg_of X G a_TooMany, PySem.W.mg_of X G a_TooLate, PySem.W.mg_of X G a_NoCopies, ⟨bKey_fb, bKey_sf, ⟨_, _, _, _, _, _, _, _, _, _, _, _, _, _, _, xl_Unknown, xr_Unknown⟩, xs_Unknown, xe_Unknown, xt_Unknown, xk_Unknown⟩, bi_Unknown, ⟨eg_Unknown, ek_Unknown, xe_Unknown, ed_Unknown, ea_Unknown, en_Unknown, et_Unknown, em_Unknown⟩, no_Unknown_name, mm_Unknown_NightError, mm_Unknown_NoPlace, mm_Unknown_TooMany, mm_Unknown_Unknown, kk_Unknown_NightError, kk_Unknown_NoPlace, kk_Unknown_TooMany, kk_Unknown_TooLate, kk_Unknown_NoCopies, kk_Unknown_ValueError, kk_Unknown_Unknown, kk_Unknown_KeyError, rfl⟩
  have F_rate_at := fun_mk (st := s_rate_at) l_rate_at c_rate_at k_rate_at
  have F_is_open := fun_mk (st := s_is_open) l_is_open c_is_open k_is_open
  have F_need_of := fun_mk (st := s_need_of) l_need_of c_need_of k_need_of
  have F_picked := fun_mk (st := s_picked) l_picked c_picked k_picked
  have F_open_slots := fun_mk (st := s_open_slots) l_open_slots c_open_slots k_open_slots
  have F_slots_of := fun_mk (st := s_slots_of) l_slots_of c_slots_of k_slots_of
  have F_bound := fun_mk (st := s_bound) l_bound c_bound k_bound
  have F__law_pen := fun_mk (st := s__law_pen) l__law_pen c__law_pen k__law_pen
  have F__law_draw := fun_mk (st := s__law_draw) l__law_draw c__law_draw k__law_draw
  have F__law_names := fun_mk (st := s__law_names) l__law_names c__law_names k__law_names
  have F__law_shop := fun_mk (st := s__law_shop) l__law_shop c__law_shop k__law_shop
  have F__law_rate := fun_mk (st := s__law_rate) l__law_rate c__law_rate k__law_rate
  have F__law_is_open := fun_mk (st := s__law_is_open) l__law_is_open c__law_is_open k__law_is_open
  have F__law_slots := fun_mk (st := s__law_slots) l__law_slots c__law_slots k__law_slots
  have F__law_bound := fun_mk (st := s__law_bound) l__law_bound c__law_bound k__law_bound
  have F__law_refusal := fun_mk (st := s__law_refusal) l__law_refusal c__law_refusal k__law_refusal
  have F__law_refused := fun_mk (st := s__law_refused) l__law_refused c__law_refused k__law_refused
  have F__law_right := fun_mk (st := s__law_right) l__law_right c__law_right k__law_right
  have F_law := fun_mk (st := s_law) l_law c_law k_law
  have F_UnknownD_initD := fun_mk (st := s_UnknownD_initD) l_UnknownD_initD c_UnknownD_initD k_UnknownD_initD
  have F_UnknownD_strD := fun_mk (st := s_UnknownD_strD) l_UnknownD_strD c_UnknownD_strD k_UnknownD_strD
  have B_rate_at := F_rate_at.binds (ps := ps_rate_at) fun _ _ _ _ _ _ us hl => match us, hl with | [_, _], _ => rfl
  have B_is_open := F_is_open.binds (ps := ps_is_open) fun _ _ _ _ _ _ us hl => match us, hl with | [_, _], _ => rfl
  have B_need_of := F_need_of.binds (ps := ps_need_of) fun _ _ _ _ _ _ us hl => match us, hl with | [_, _], _ => rfl
  have B_picked := F_picked.binds (ps := ps_picked) fun _ _ _ _ _ _ us hl => match us, hl with | [_, _], _ => rfl
  have B_open_slots := F_open_slots.binds (ps := ps_open_slots) fun _ _ _ _ _ _ us hl => match us, hl with | [_, _], _ => rfl
  have B_slots_of := F_slots_of.binds (ps := ps_slots_of) fun _ _ _ _ _ _ us hl => match us, hl with | [_, _, _], _ => rfl
  have KB_slots_of_0_names_needs_presses : KB K _ ps_slots_of 0 ["names", "needs", "presses"] (pickL [] [.z 2, .z 1, .z 0]) := Fun.kbp F_slots_of 0 _ [.z 2, .z 1, .z 0] fun _ _ _ _ _ _ us ws h1 h2 => match us, ws, h1, h2 with | [], [_, _, _], _, _ => rfl
  have B_bound := F_bound.binds (ps := ps_bound) fun _ _ _ _ _ _ us hl => match us, hl with | [_, _, _], _ => rfl
  have KB_bound_0_needs_names_presses : KB K _ ps_bound 0 ["needs", "names", "presses"] (pickL [] [.z 2, .z 0, .z 1]) := Fun.kbp F_bound 0 _ [.z 2, .z 0, .z 1] fun _ _ _ _ _ _ us ws h1 h2 => match us, ws, h1, h2 with | [], [_, _, _], _, _ => rfl
  have B__law_pen := F__law_pen.binds (ps := ps__law_pen) fun _ _ _ _ _ _ us hl => match us, hl with | [_], _ => rfl
  have B__law_draw := F__law_draw.binds (ps := ps__law_draw) fun _ _ _ _ _ _ us hl => match us, hl with | [_, _], _ => rfl
  have B__law_names := F__law_names.binds (ps := ps__law_names) fun _ _ _ _ _ _ us hl => match us, hl with | [_, _], _ => rfl
  have B__law_shop := F__law_shop.binds (ps := ps__law_shop) fun _ _ _ _ _ _ us hl => match us, hl with | [_, _, _], _ => rfl
  have B__law_rate := F__law_rate.binds (ps := ps__law_rate) fun _ _ _ _ _ _ us hl => match us, hl with | [_, _, _], _ => rfl
  have B__law_is_open := F__law_is_open.binds (ps := ps__law_is_open) fun _ _ _ _ _ _ us hl => match us, hl with | [_, _, _], _ => rfl
  have B__law_slots := F__law_slots.binds (ps := ps__law_slots) fun _ _ _ _ _ _ us hl => match us, hl with | [_, _], _ => rfl
  have B__law_bound := F__law_bound.binds (ps := ps__law_bound) fun _ _ _ _ _ _ us hl => match us, hl with | [_, _, _], _ => rfl
  have B__law_refusal := F__law_refusal.binds (ps := ps__law_refusal) fun _ _ _ _ _ _ us hl => match us, hl with | [_], _ => rfl
  have B__law_refused := F__law_refused.binds (ps := ps__law_refused) fun _ _ _ _ _ _ us hl => match us, hl with | [_, _, _, _], _ => rfl
  have B__law_right := F__law_right.binds (ps := ps__law_right) fun _ _ _ _ _ _ us hl => match us, hl with | [_, _, _], _ => rfl
  have B_UnknownD_initD := F_UnknownD_initD.binds (ps := ps_UnknownD_initD) fun _ _ _ _ _ _ us hl => match us, hl with | [_, _], _ => rfl
  have B_UnknownD_strD := F_UnknownD_strD.binds (ps := ps_UnknownD_strD) fun _ _ _ _ _ _ us hl => match us, hl with | [_], _ => rfl
  refine ⟨(⟨C_NightError, C_Unknown, C_NoPlace, C_TooMany, C_TooLate, C_NoCopies, (fun x => if x = "NightError" then C_NightError else if x = "Unknown" then C_Unknown else if x = "NoPlace" then C_NoPlace else if x = "TooMany" then C_TooMany else if x = "TooLate" then C_TooLate else if x = "NoCopies" then C_NoCopies else 0)⟩ : Ad), PySem.W.fnOf "law" "law" (defArgs s_law) (defBody s_law) (defScope s_law) .none kV_law dc_law pm_law an_law cd_law ct_law, fun s v => .of_eq rfl, fun base _ _ => ?_⟩
  have R_Unknown : RaiseC l.prog w K mg base C_Unknown "Unknown" ps_UnknownD_initD ["name"] := ⟨f_UnknownD_initD, _, fi_UnknownD_initD, ft_UnknownD_initD, ok_UnknownD_initD T F_UnknownD_initD, B_UnknownD_initD⟩
  have O__law_pen : OkG l.prog w K mg base CX0 1 "_law_pen" ps__law_pen (sp__law_pen K (⟨C_NightError, C_Unknown, C_NoPlace, C_TooMany, C_TooLate, C_NoCopies, (fun x => if x = "NightError" then C_NightError else if x = "Unknown" then C_Unknown else if x = "NoPlace" then C_NoPlace else if x = "TooMany" then C_TooMany else if x = "TooLate" then C_TooLate else if x = "NoCopies" then C_NoCopies else 0)⟩ : Ad)) f__law_pen _ := ⟨ok__law_pen T F__law_pen , PySem.W.mg_of X G a__law_pen, k__law_pen⟩
  have S_Unknown : StrC l.prog w K mg base 1 C_Unknown ps_UnknownD_strD (sp_UnknownD_strD K (⟨C_NightError, C_Unknown, C_NoPlace, C_TooMany, C_TooLate, C_NoCopies, (fun x => if x = "NightError" then C_NightError else if x = "Unknown" then C_Unknown else if x = "NoPlace" then C_NoPlace else if x = "TooMany" then C_TooMany else if x = "TooLate" then C_TooLate else if x = "NoCopies" then C_NoCopies else 0)⟩ : Ad)) := ⟨f_UnknownD_strD, _, ok_UnknownD_strD T F_UnknownD_strD , B_UnknownD_strD, fi_UnknownD_strD, xf_UnknownD_strD⟩
  have O_rate_at : OkG l.prog w K mg base CX0 1 "rate_at" ps_rate_at (sp_rate_at K (⟨C_NightError, C_Unknown, C_NoPlace, C_TooMany, C_TooLate, C_NoCopies, (fun x => if x = "NightError" then C_NightError else if x = "Unknown" then C_Unknown else if x = "NoPlace" then C_NoPlace else if x = "TooMany" then C_TooMany else if x = "TooLate" then C_TooLate else if x = "NoCopies" then C_NoCopies else 0)⟩ : Ad)) f_rate_at _ := ⟨ok_rate_at T F_rate_at , PySem.W.mg_of X G a_rate_at, k_rate_at⟩
  have O_is_open : OkG l.prog w K mg base CX0 1 "is_open" ps_is_open (sp_is_open K (⟨C_NightError, C_Unknown, C_NoPlace, C_TooMany, C_TooLate, C_NoCopies, (fun x => if x = "NightError" then C_NightError else if x = "Unknown" then C_Unknown else if x = "NoPlace" then C_NoPlace else if x = "TooMany" then C_TooMany else if x = "TooLate" then C_TooLate else if x = "NoCopies" then C_NoCopies else 0)⟩ : Ad)) f_is_open _ := ⟨ok_is_open T F_is_open , PySem.W.mg_of X G a_is_open, k_is_open⟩
  have O_need_of : OkG l.prog w K mg base CX0 1 "need_of" ps_need_of (sp_need_of K (⟨C_NightError, C_Unknown, C_NoPlace, C_TooMany, C_TooLate, C_NoCopies, (fun x => if x = "NightError" then C_NightError else if x = "Unknown" then C_Unknown else if x = "NoPlace" then C_NoPlace else if x = "TooMany" then C_TooMany else if x = "TooLate" then C_TooLate else if x = "NoCopies" then C_NoCopies else 0)⟩ : Ad)) f_need_of _ := ⟨ok_need_of T F_need_of , PySem.W.mg_of X G a_need_of, k_need_of⟩
  have O_picked : OkG l.prog w K mg base (L2.CX l.prog w) 4 "picked" ps_picked (sp_picked K (⟨C_NightError, C_Unknown, C_NoPlace, C_TooMany, C_TooLate, C_NoCopies, (fun x => if x = "NightError" then C_NightError else if x = "Unknown" then C_Unknown else if x = "NoPlace" then C_NoPlace else if x = "TooMany" then C_TooMany else if x = "TooLate" then C_TooLate else if x = "NoCopies" then C_NoCopies else 0)⟩ : Ad)) f_picked _ := ⟨ok_picked T F_picked O_need_of B_need_of R_Unknown, PySem.W.mg_of X G a_picked, k_picked⟩
  have O_open_slots : OkG l.prog w K mg base CX0 2 "open_slots" ps_open_slots (sp_open_slots K (⟨C_NightError, C_Unknown, C_NoPlace, C_TooMany, C_TooLate, C_NoCopies, (fun x => if x = "NightError" then C_NightError else if x = "Unknown" then C_Unknown else if x = "NoPlace" then C_NoPlace else if x = "TooMany" then C_TooMany else if x = "TooLate" then C_TooLate else if x = "NoCopies" then C_NoCopies else 0)⟩ : Ad)) f_open_slots _ := ⟨ok_open_slots T F_open_slots O_is_open B_is_open, PySem.W.mg_of X G a_open_slots, k_open_slots⟩
  have O_slots_of : OkG l.prog w K mg base (L2.CX l.prog w) 5 "slots_of" ps_slots_of (sp_slots_of K (⟨C_NightError, C_Unknown, C_NoPlace, C_TooMany, C_TooLate, C_NoCopies, (fun x => if x = "NightError" then C_NightError else if x = "Unknown" then C_Unknown else if x = "NoPlace" then C_NoPlace else if x = "TooMany" then C_TooMany else if x = "TooLate" then C_TooLate else if x = "NoCopies" then C_NoCopies else 0)⟩ : Ad)) f_slots_of _ := ⟨ok_slots_of T F_slots_of O_open_slots B_open_slots O_picked B_picked, PySem.W.mg_of X G a_slots_of, k_slots_of⟩
  have O_bound : OkG l.prog w K mg base (L2.CX l.prog w) 5 "bound" ps_bound (sp_bound K (⟨C_NightError, C_Unknown, C_NoPlace, C_TooMany, C_TooLate, C_NoCopies, (fun x => if x = "NightError" then C_NightError else if x = "Unknown" then C_Unknown else if x = "NoPlace" then C_NoPlace else if x = "TooMany" then C_TooMany else if x = "TooLate" then C_TooLate else if x = "NoCopies" then C_NoCopies else 0)⟩ : Ad)) f_bound _ := ⟨ok_bound T F_bound O_picked B_picked O_rate_at B_rate_at O_open_slots B_open_slots, PySem.W.mg_of X G a_bound, k_bound⟩
  have O__law_draw : OkG l.prog w K mg base CX0 1 "_law_draw" ps__law_draw (sp__law_draw K (⟨C_NightError, C_Unknown, C_NoPlace, C_TooMany, C_TooLate, C_NoCopies, (fun x => if x = "NightError" then C_NightError else if x = "Unknown" then C_Unknown else if x = "NoPlace" then C_NoPlace else if x = "TooMany" then C_TooMany else if x = "TooLate" then C_TooLate else if x = "NoCopies" then C_NoCopies else 0)⟩ : Ad)) f__law_draw _ := ⟨ok__law_draw T F__law_draw , PySem.W.mg_of X G a__law_draw, k__law_draw⟩
  have O__law_names : OkG l.prog w K mg base CX0 2 "_law_names" ps__law_names (sp__law_names K (⟨C_NightError, C_Unknown, C_NoPlace, C_TooMany, C_TooLate, C_NoCopies, (fun x => if x = "NightError" then C_NightError else if x = "Unknown" then C_Unknown else if x = "NoPlace" then C_NoPlace else if x = "TooMany" then C_TooMany else if x = "TooLate" then C_TooLate else if x = "NoCopies" then C_NoCopies else 0)⟩ : Ad)) f__law_names _ := ⟨ok__law_names T F__law_names O__law_draw B__law_draw, PySem.W.mg_of X G a__law_names, k__law_names⟩
  have O__law_shop : OkG l.prog w K mg base CX0 3 "_law_shop" ps__law_shop (sp__law_shop K (⟨C_NightError, C_Unknown, C_NoPlace, C_TooMany, C_TooLate, C_NoCopies, (fun x => if x = "NightError" then C_NightError else if x = "Unknown" then C_Unknown else if x = "NoPlace" then C_NoPlace else if x = "TooMany" then C_TooMany else if x = "TooLate" then C_TooLate else if x = "NoCopies" then C_NoCopies else 0)⟩ : Ad)) f__law_shop _ := ⟨ok__law_shop T F__law_shop O__law_names B__law_names O__law_draw B__law_draw, PySem.W.mg_of X G a__law_shop, k__law_shop⟩
  have O__law_rate : OkG l.prog w K mg base CX0 1 "_law_rate" ps__law_rate (sp__law_rate K (⟨C_NightError, C_Unknown, C_NoPlace, C_TooMany, C_TooLate, C_NoCopies, (fun x => if x = "NightError" then C_NightError else if x = "Unknown" then C_Unknown else if x = "NoPlace" then C_NoPlace else if x = "TooMany" then C_TooMany else if x = "TooLate" then C_TooLate else if x = "NoCopies" then C_NoCopies else 0)⟩ : Ad)) f__law_rate _ := ⟨ok__law_rate T F__law_rate , PySem.W.mg_of X G a__law_rate, k__law_rate⟩
  have O__law_is_open : OkG l.prog w K mg base CX0 1 "_law_is_open" ps__law_is_open (sp__law_is_open K (⟨C_NightError, C_Unknown, C_NoPlace, C_TooMany, C_TooLate, C_NoCopies, (fun x => if x = "NightError" then C_NightError else if x = "Unknown" then C_Unknown else if x = "NoPlace" then C_NoPlace else if x = "TooMany" then C_TooMany else if x = "TooLate" then C_TooLate else if x = "NoCopies" then C_NoCopies else 0)⟩ : Ad)) f__law_is_open _ := ⟨ok__law_is_open T F__law_is_open , PySem.W.mg_of X G a__law_is_open, k__law_is_open⟩
  have O__law_slots : OkG l.prog w K mg base CX0 2 "_law_slots" ps__law_slots (sp__law_slots K (⟨C_NightError, C_Unknown, C_NoPlace, C_TooMany, C_TooLate, C_NoCopies, (fun x => if x = "NightError" then C_NightError else if x = "Unknown" then C_Unknown else if x = "NoPlace" then C_NoPlace else if x = "TooMany" then C_TooMany else if x = "TooLate" then C_TooLate else if x = "NoCopies" then C_NoCopies else 0)⟩ : Ad)) f__law_slots _ := ⟨ok__law_slots T F__law_slots O__law_rate B__law_rate O__law_is_open B__law_is_open, PySem.W.mg_of X G a__law_slots, k__law_slots⟩
  have O__law_bound : OkG l.prog w K mg base CX0 3 "_law_bound" ps__law_bound (sp__law_bound K (⟨C_NightError, C_Unknown, C_NoPlace, C_TooMany, C_TooLate, C_NoCopies, (fun x => if x = "NightError" then C_NightError else if x = "Unknown" then C_Unknown else if x = "NoPlace" then C_NoPlace else if x = "TooMany" then C_TooMany else if x = "TooLate" then C_TooLate else if x = "NoCopies" then C_NoCopies else 0)⟩ : Ad)) f__law_bound _ := ⟨ok__law_bound T F__law_bound O__law_slots B__law_slots O__law_rate B__law_rate, PySem.W.mg_of X G a__law_bound, k__law_bound⟩
  have O__law_refusal : OkG l.prog w K mg base CX0 4 "_law_refusal" ps__law_refusal (sp__law_refusal K (⟨C_NightError, C_Unknown, C_NoPlace, C_TooMany, C_TooLate, C_NoCopies, (fun x => if x = "NightError" then C_NightError else if x = "Unknown" then C_Unknown else if x = "NoPlace" then C_NoPlace else if x = "TooMany" then C_TooMany else if x = "TooLate" then C_TooLate else if x = "NoCopies" then C_NoCopies else 0)⟩ : Ad)) f__law_refusal _ := ⟨ok__law_refusal T F__law_refusal S_Unknown, PySem.W.mg_of X G a__law_refusal, k__law_refusal⟩
  have O__law_refused : OkG l.prog w K mg base CX0 6 "_law_refused" ps__law_refused (sp__law_refused K (⟨C_NightError, C_Unknown, C_NoPlace, C_TooMany, C_TooLate, C_NoCopies, (fun x => if x = "NightError" then C_NightError else if x = "Unknown" then C_Unknown else if x = "NoPlace" then C_NoPlace else if x = "TooMany" then C_TooMany else if x = "TooLate" then C_TooLate else if x = "NoCopies" then C_NoCopies else 0)⟩ : Ad)) f__law_refused _ := ⟨ok__law_refused T F__law_refused O__law_refusal B__law_refusal O_bound B_bound O_slots_of B_slots_of, PySem.W.mg_of X G a__law_refused, k__law_refused⟩
  have O__law_right : OkG l.prog w K mg base CX0 6 "_law_right" ps__law_right (sp__law_right K (⟨C_NightError, C_Unknown, C_NoPlace, C_TooMany, C_TooLate, C_NoCopies, (fun x => if x = "NightError" then C_NightError else if x = "Unknown" then C_Unknown else if x = "NoPlace" then C_NoPlace else if x = "TooMany" then C_TooMany else if x = "TooLate" then C_TooLate else if x = "NoCopies" then C_NoCopies else 0)⟩ : Ad)) f__law_right _ := ⟨ok__law_right T F__law_right O_slots_of B_slots_of KB_slots_of_0_names_needs_presses O__law_slots B__law_slots O_bound B_bound O__law_bound B__law_bound, PySem.W.mg_of X G a__law_right, k__law_right⟩
  exact ok_law T F_law O__law_pen B__law_pen O__law_shop B__law_shop O__law_names B__law_names O__law_draw B__law_draw O_bound B_bound KB_bound_0_needs_names_presses O__law_right B__law_right O__law_refused B__law_refused
theorem walk {l : PySem.W.OpenLaw} {q : Program} {loose : List Str} {XP : (Str → Option Value) → Heap → Prop} {YP : World → Heap → Prop} {d : DefRec} {K : Params → PySem.W.Frag} (hn : l.most = some 63) (hdf : d.params.defaults = [])
    (hY : ∀ (w : World) (h : Heap), YP w h → (K w.params).In h)
    (F : ∀ (w : World) (mg : Str → Option Value) (fa : Addr) (h : Heap), (K w.params).In h → h.Ns mainGlobals mg → mg d.name = some (.ref fa) →
      ∃ (c : Ad) (fd : FuncData), (∀ (s : Shared) (u : Value), BindsTo s fd ⟨[u], []⟩ [("_law_script", u)]) ∧ ∀ base : Heap, (K w.params).In base → base.Ns mainGlobals mg → FnG l.prog w (K w.params) mg base CX0 7 fa fd ["_law_script"] (sp_law (K w.params) c)) :
    PySem.W.WalkO q loose XP YP l.row.toRowW d [] (fun f vs => PySem.call f vs) :=
  walk_ofG (n := 63) (k := 7) (x := "_law_script") (CX := fun _ => CX0) (sp := fun w => spLT (K w.params) []) hn (by decide) hdf ⟨rfl, by decide, by decide⟩ hY
    (fun w mg fa h a b c => by
      obtain ⟨ad, fd, h1, h2⟩ := F w mg fa h a b c
      exact ⟨fd, h1, h2⟩) (fun _ _ a ns hl _ hS => ⟨⟨a, ns, rfl, hS, hl, fun _ => rfl⟩, fun _ hp => nomatch hp⟩) fun _ _ _ _ _ z => z
end Nk50
open PySem PySem.W PyProof.Rows in
set_option maxRecDepth 100000 in
set_option maxHeartbeats 0 in
theorem PySem.Challenge.cw_nightpaper_k50_slots_and_bounds_holds : PySem.Challenge.rw_nightpaper_k50_slots_and_bounds.Holds := by
  w_on; o_law; k_head; (case hw => w_witness2)
  k_fill
  refine Nk50.walk (l := PySem.Challenge.rw_nightpaper_k50_slots_and_bounds) rfl rfl (fun w h Y => PySem.W.kIn_of Y) ?F
  case F =>
    intro w mg fa h KX G hmg
    refine' Nk50.all_mk KX G hmg ?a_rate_at ?a_is_open ?a_need_of ?a_picked ?a_open_slots ?a_slots_of ?a_bound ?a__law_pen ?a__law_draw ?a__law_names ?a__law_shop ?a__law_rate ?a__law_is_open ?a__law_slots ?a__law_bound ?a__law_refusal ?a__law_refused ?a__law_right ?a_law ?a_NightError ?a_Unknown ?a_NoPlace ?a_TooMany ?a_TooLate ?a_NoCopies ?l_rate_at ?c_rate_at ?k_rate_at ?l_is_open ?c_is_open ?k_is_open ?l_need_of ?c_need_of ?k_need_of ?l_picked ?c_picked ?k_picked ?l_open_slots ?c_open_slots ?k_open_slots ?l_slots_of ?c_slots_of ?k_slots_of ?l_bound ?c_bound ?k_bound ?l__law_pen ?c__law_pen ?k__law_pen ?l__law_draw ?c__law_draw ?k__law_draw ?l__law_names ?c__law_names ?k__law_names ?l__law_shop ?c__law_shop ?k__law_shop ?l__law_rate ?c__law_rate ?k__law_rate ?l__law_is_open ?c__law_is_open ?k__law_is_open ?l__law_slots ?c__law_slots ?k__law_slots ?l__law_bound ?c__law_bound ?k__law_bound ?l__law_refusal ?c__law_refusal ?k__law_refusal ?l__law_refused ?c__law_refused ?k__law_refused ?l__law_right ?c__law_right ?k__law_right ?l_law ?c_law ?k_law ?fi_UnknownD_initD ?ft_UnknownD_initD ?l_UnknownD_initD ?c_UnknownD_initD ?k_UnknownD_initD ?fi_UnknownD_strD ?xf_UnknownD_strD ?ft_UnknownD_strD ?l_UnknownD_strD ?c_UnknownD_strD ?k_UnknownD_strD ?z_IndexError ?z_KeyError ?z_OverflowError ?z_RuntimeError ?z_ValueError ?z_ZeroDivisionError ?z_abs ?z_any ?z_enumerate ?z_isinstance ?z_len ?z_list ?z_max ?z_min ?z_range ?z_repr ?z_sorted ?z_str ?z_sum ?z_tuple ?xl_Unknown ?xr_Unknown ?bi_Unknown ?xs_Unknown ?xe_Unknown ?xt_Unknown ?xk_Unknown ?eg_Unknown ?ek_Unknown ?ed_Unknown ?ea_Unknown ?en_Unknown ?et_Unknown ?em_Unknown ?no_Unknown_name ?mm_Unknown_NightError ?mm_Unknown_NoPlace ?mm_Unknown_TooMany ?mm_Unknown_Unknown ?kk_Unknown_NightError ?kk_Unknown_NoPlace ?kk_Unknown_TooMany ?kk_Unknown_TooLate ?kk_Unknown_NoCopies ?kk_Unknown_ValueError ?kk_Unknown_Unknown ?kk_Unknown_KeyError
    (case a_rate_at => k_is)
    (case a_is_open => k_is)
    (case a_need_of => k_is)
    (case a_picked => k_is)
    (case a_open_slots => k_is)
    (case a_slots_of => k_is)
    (case a_bound => k_is)
    (case a__law_pen => k_is)
    (case a__law_draw => k_is)
    (case a__law_names => k_is)
    (case a__law_shop => k_is)
    (case a__law_rate => k_is)
    (case a__law_is_open => k_is)
    (case a__law_slots => k_is)
    (case a__law_bound => k_is)
    (case a__law_refusal => k_is)
    (case a__law_refused => k_is)
    (case a__law_right => k_is)
    (case a_law => k_is)
    (case a_NightError => k_is)
    (case a_Unknown => k_is)
    (case a_NoPlace => k_is)
    (case a_TooMany => k_is)
    (case a_TooLate => k_is)
    (case a_NoCopies => k_is)
    (case l_rate_at => k_is)
    (case c_rate_at => k_is)
    (case k_rate_at => k_is)
    (case l_is_open => k_is)
    (case c_is_open => k_is)
    (case k_is_open => k_is)
    (case l_need_of => k_is)
    (case c_need_of => k_is)
    (case k_need_of => k_is)
    (case l_picked => k_is)
    (case c_picked => k_is)
    (case k_picked => k_is)
    (case l_open_slots => k_is)
    (case c_open_slots => k_is)
    (case k_open_slots => k_is)
    (case l_slots_of => k_is)
    (case c_slots_of => k_is)
    (case k_slots_of => k_is)
    (case l_bound => k_is)
    (case c_bound => k_is)
    (case k_bound => k_is)
    (case l__law_pen => k_is)
    (case c__law_pen => k_is)
    (case k__law_pen => k_is)
    (case l__law_draw => k_is)
    (case c__law_draw => k_is)
    (case k__law_draw => k_is)
    (case l__law_names => k_is)
    (case c__law_names => k_is)
    (case k__law_names => k_is)
    (case l__law_shop => k_is)
    (case c__law_shop => k_is)
    (case k__law_shop => k_is)
    (case l__law_rate => k_is)
    (case c__law_rate => k_is)
    (case k__law_rate => k_is)
    (case l__law_is_open => k_is)
    (case c__law_is_open => k_is)
    (case k__law_is_open => k_is)
    (case l__law_slots => k_is)
    (case c__law_slots => k_is)
    (case k__law_slots => k_is)
    (case l__law_bound => k_is)
    (case c__law_bound => k_is)
    (case k__law_bound => k_is)
    (case l__law_refusal => k_is)
    (case c__law_refusal => k_is)
    (case k__law_refusal => k_is)
    (case l__law_refused => k_is)
    (case c__law_refused => k_is)
    (case k__law_refused => k_is)
    (case l__law_right => k_is)
    (case c__law_right => k_is)
    (case k__law_right => k_is)
    (case l_law => k_is)
    (case c_law => k_is)
    (case k_law => k_is)
    (case fi_UnknownD_initD => k_is)
    (case ft_UnknownD_initD => k_is)
    (case l_UnknownD_initD => k_is)
    (case c_UnknownD_initD => k_is)
    (case k_UnknownD_initD => k_is)
    (case fi_UnknownD_strD => k_is)
    (case xf_UnknownD_strD => k_is)
    (case ft_UnknownD_strD => k_is)
    (case l_UnknownD_strD => k_is)
    (case c_UnknownD_strD => k_is)
    (case k_UnknownD_strD => k_is)
    (case z_IndexError => k_is)
    (case z_KeyError => k_is)
    (case z_OverflowError => k_is)
    (case z_RuntimeError => k_is)
    (case z_ValueError => k_is)
    (case z_ZeroDivisionError => k_is)
    (case z_abs => k_is)
    (case z_any => k_is)
    (case z_enumerate => k_is)
    (case z_isinstance => k_is)
    (case z_len => k_is)
    (case z_list => k_is)
    (case z_max => k_is)
    (case z_min => k_is)
    (case z_range => k_is)
    (case z_repr => k_is)
    (case z_sorted => k_is)
    (case z_str => k_is)
    (case z_sum => k_is)
    (case z_tuple => k_is)
    (case xl_Unknown => k_is)
    (case xr_Unknown => first | rfl | decide +kernel | k_is)
    (case bi_Unknown => k_is)
    (case xs_Unknown => k_is)
    (case xe_Unknown => k_is)
    (case xt_Unknown => k_is)
    (case xk_Unknown => k_is)
    (case eg_Unknown => k_is)
    (case ek_Unknown => k_is)
    (case ed_Unknown => k_is)
    (case ea_Unknown => k_is)
    (case en_Unknown => k_is)
    (case et_Unknown => k_is)
    (case em_Unknown => k_is)
    (case no_Unknown_name => k_is)
    (case mm_Unknown_NightError => first | k_is | rfl)
    (case mm_Unknown_NoPlace => first | k_is | rfl)
    (case mm_Unknown_TooMany => first | k_is | rfl)
    (case mm_Unknown_Unknown => first | k_is | rfl)
    (case kk_Unknown_NightError => first | k_is | rfl)
    (case kk_Unknown_NoPlace => first | k_is | rfl)
    (case kk_Unknown_TooMany => first | k_is | rfl)
    (case kk_Unknown_TooLate => first | k_is | rfl)
    (case kk_Unknown_NoCopies => first | k_is | rfl)
    (case kk_Unknown_ValueError => first | k_is | rfl)
    (case kk_Unknown_Unknown => first | k_is | rfl)
    (case kk_Unknown_KeyError => first | k_is | rfl)
#print axioms PySem.Challenge.cw_nightpaper_k50_slots_and_bounds_holds
