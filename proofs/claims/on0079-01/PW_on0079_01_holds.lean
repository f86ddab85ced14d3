import PyProof.Rows.All
import Wide.All
import OpenK.AllK
import Open.Tops
import Wide.FinOn
import Lean
import PySem.Challenge.RW_on0079_01
set_option Elab.async false
set_option tactic.hygienic false
set_option linter.all false
set_option maxRecDepth 100000
set_option genInjectivity false
set_option genSizeOf false
local macro_rules | `(tactic| omega) => `(tactic| lia)
local macro_rules | `(tactic| rfl') => `(tactic| kernel_rfl)
set_option hygiene false in
local macro_rules
  | `(tactic| cases $x:ident with $[$alts:inductionAlt]*) => `(tactic| first
     | induction $x:ident using List.casesOn with $[$alts:inductionAlt]*
     | induction $x:ident using Nat.casesOn with $[$alts:inductionAlt]*
     | induction $x:ident using PySem.Expr.casesOn with $[$alts:inductionAlt]*
     | induction $x:ident using PySem.Stmt.casesOn with $[$alts:inductionAlt]*
     | induction $x:ident using Mine.D.casesOn with $[$alts:inductionAlt]*
     | induction $x:ident using Mine.AV.casesOn with $[$alts:inductionAlt]*
     | induction $x:ident using Int.casesOn with $[$alts:inductionAlt]*
     | induction $x:ident with $[$alts:inductionAlt]*
     | cases ($x:ident) with $[$alts:inductionAlt]*)
  | `(tactic| cases $h:ident : $e:term with $[$alts:inductionAlt]*) => `(tactic| (generalize $h:ident : $e = z_0; cases z_0 with $[$alts:inductionAlt]*))
  | `(tactic| show $t:term) => `(tactic| refine (?_ : $t))
  | `(tactic| change $t:term) => `(tactic| refine (?_ : $t))
  | `(tactic| cases $h:ident) => `(tactic| first
     | subst ($h:ident : _ = _)
     | (injection $h:ident; done)
     | (injection $h:ident with z_1 z_2 z_3 z_4; subst z_1 z_2 z_3 z_4)
     | (injection $h:ident with z_1 z_2 z_3; subst z_1 z_2 z_3)
     | (injection $h:ident with z_1 z_2; subst z_1 z_2)
     | (injection $h:ident with z_1; first | subst z_1 | (injection z_1; done) | (injection z_1 with z_1 z_2; subst z_1 z_2))
     | cases ($h:ident))
local macro_rules
  | `(def $i:declId $s:optDeclSig $v:declVal) => `(noncomputable def $i:declId $s:optDeclSig $v:declVal)
  | `(abbrev $i:declId $s:optDeclSig $v:declVal) => `(noncomputable abbrev $i:declId $s:optDeclSig $v:declVal)
open PySem renaming Value→h_, wpAny_bind→g_, Params→g9, World→g8, Shared→g7, Around→gY, wpAny→gW, wpAny_pure→gU, Scope→gQ, Program→gP, model→gO, starEach→gF, backTo→gv, NameKind→gr, OsState→gq, DictEntry→gh, isTrue→gc, execs→fY, CmpOp→fW, IsPair→fS, wpAny_field→fQ, pyIter→fM, FuncData→fL, assign→fJ, nsFind→fH, IsZip→fE, wpAny_holding→fu, compareOp→fq, setAttr→fj, intKind→fh, callWith→eZ, Operator→eS, assignEach→eK, Comprehension→eG, setItem→d_, Builtin→dY, wpAny_loadPart_at→dP, treeTable→dO, swapsWith→dN, seqIndex?→dK, Arguments→dH, excClassObj→dF, newTuple→dg, codeAmong→c8, wpAny_seqItems→c5, ExceptHandler→cP, importedModules→cO, wpAny_standAt→cL, swappedStores→cK, wpAny_call_entry→cG, typeLookup→cD, setFlight→cu, wpAny_setField_rec→ck, wpAny_newObj_type→b7, assignInOrder→bZ, letOwnedTupleGo→bV, wpAny_callSpecial?_slot→bS, slicePicked→bP, wpAny_typeLookup_exc→bI, slot_list_setitem→a_, wpAny_setField→aR, wpAny_storeName_local→aH, builtinLookup_eq_fast→aq
open Bool renaming and_eq_true_iff→g6, false_ne_true→cB, or_eq_true→bE, and_eq_true→bD, or_eq_false_iff→bC
open Nat renaming beq→gZ, ble→gK, le_of_ble_eq_true→gp, blt_eq→gk, le_refl→gi, ne_of_lt→f_, blt→fZ, lt_succ_self→fU, ble_eq_true_of_le→fT, le_trans→fN, eq_of_beq_eq_true→e_, lt_irrefl→eT, lt_of_lt_of_le→d7, beq_refl→c_, succ→cT, le_add_right→cR, sub_self→cQ, min_eq_left→cg, ne_of_gt→bU, zero_add→bO, min_le_right→bq, lt_of_le_of_lt→aG
open False renaming elim→gV
open List renaming size_toArray→gM, zip→gH, append_assoc→gG, append_nil→gE, length_append→gA, mem_cons→gy, all_eq_true→gu, length_map→gn, map_cons→gb, getElem?_eq_getElem→f9, length_cons→fR, all_cons→fP, mem_singleton→fK, getD_eq_getElem?_getD→fG, length_take→fF, getElem?_eq_some_iff→fD, prefix_append→fC, range'→fB, range→eY, replicate→eH, getElem?_append_right→d9, getElem?_map→d8, mem_map→dX, lookup_cons→dD, take_append_drop→dz, any_cons→dh, getElem?_append_left→c9, length_set→c7, map_append→c6, getElem?_toArray→cZ, prefix_refl→cJ, take_of_length_le→cC, mem_filterMap→b9, nodup_cons→bY, drop_eq_getElem_cons→bK, all_append→bJ, mem_map_of_mem→bA, eq_nil_of_length_eq_zero→bg, forIn_cons→aZ, getElem?_take_of_lt→aY, mem_append→aW, getElem_mem→aU, set_append_right→aS, dropLast_eq_take→aD, getElem?_set_ne→aC, mem_cons_of_mem→aB, getElem?_eq_none→aA, getElem?_eq_none_iff→az, mem_of_getElem?→ay, drop_eq_nil_of_le→av
open PySem.Heap renaming lt_size→gJ, get?_push_of_some→gD, get?_push_size→fy, get?_update_other→dR, SameBut→dw, get?_update_self→dm, size_push→b8
open PySem.W renaming tabObj→gC, keepIn→gw, listOf→fV, topFrame→eF, boot_heap→eE, looks_pair→ef, handedIn→dM, look_both→cN
open PySem.Challenge renaming pw_on0079_01→gz, rw_on0079_01→aL
open PySem.Txt renaming lower→gm
open Option.some renaming inj→gj
open Int renaming le_trans→gf, not_lt→fc, fmod→dI, toNat_of_nonneg→cM, le_of_lt→cH, ofNat→cF, add_zero→cj, ofNat_le→b_, min_eq_left→bG, max_eq_right→bF, eq_ofNat_of_zero_le→bu, sub_zero→aM, toNat_of_nonpos→aK, add_le_add_right→aF, natCast_nonneg→aE, add_right_comm→ak
open PySem.Value renaming none→fO, ref→eU, builtin→bH
open PySem.Str renaming ofString→fz, join→ao
open Ne renaming symm→ff
open PyProof.Rows renaming subscriptTail→eN
open Array renaming mk→ez, toList_inj→dU, length_toList→dJ, getElem?_toList→bh, getElem?_eq_some_iff→au
open PySem.W.SharedT renaming abs→dZ
open PySem.Builtin.Range renaming rangeSize→dW, small→bW, rangeFitsLong→af
open PySem.Obj renaming mapFields→dQ, data_mapFields→cy, mapSeq→bR, isFreed_of_fields→aQ
open PySem.Expr.Name renaming elim→dG
open PySem.Expr.Attribute renaming elim→cY
open PySem.Expr.Tuple renaming elim→cV
open PySem.Expr.ListComp renaming elim→cU
open PySem.Expr.Call renaming elim→cI
open PySem.Stmt.If renaming elim→cA
open PySem.Builtin.List renaming listFitsIndex→bT, listSubscript?→bk, listTooLong→bc
open PySem.Builtin.Str renaming strSliceIndices→bQ
open Option renaming isSome_iff_exists→bM, map_eq_some_iff→aI
open Prod.mk renaming injEq→bL
open PySem.Around renaming frames_deeper→bB
open PySem.Stmt.For renaming elim→aV
open PySem.Stmt.Assign renaming elim→aT
open PySem.Builtin.SmallTypes renaming ownedTupleIsFree→aP, nextOf→aO
open PySem.F renaming slot_zip_next→aN
open PySem.Heap.SameBut renaming update→aJ
open PySem.Stmt.Try renaming elim→aj
open PySem.Stmt.Return renaming elim→ah
open PySem.Stmt.FunctionDef renaming elim→aa
open PySem PySem.Calls PyProof.Rows PySem.W
namespace Hd
def st (i:Nat):Stmt:=(gz.main.body[i]?).getD (.Pass default)
def me (i j:Nat):Stmt:=match st i with
 | .ClassDef _ _ _ b _ _ _ _ _ _ _=>(b[j]?).getD (.Pass default)
 |s=>s
def yT (s:Stmt) (q:Str):fL:=match s with
 | .FunctionDef n a b _ _ _ sc _ _ _=>{name:=n,qualname:=q,params:=a,body:= .stmts b,scope:=sc,globals:=0,closure:= [],defaults:= .none,kwdefaults:= .none}
 |_=>default
def sq (l:List h_):Obj:={cls:= .type "tuple",data:= .seq l.toArray}
def fl (l:List h_):Obj:={cls:= .none,data:= .fields l.toArray}
def cb (n q:Str) (t line a b c d r:Nat) (o:Bool) (x y z:h_) (k:Nat):Obj:={cls:= .type "code",data:= .fields #[.str n t,.str q (t+1),.str "/claim/cut.py" (t+2),.int line 0,.int a 0,.int b 0,.int c 0,.int d 0,.ref r,.bool o,.int 181 0,.ref (r+1),.none,x,y,z,.int k 0,.int line 0,.str "/claim/cut.py" (k+1)]}
def co (n q:Str) (t line a b c d r:Nat) (o:Bool) (k:Nat):Obj:=cb n q t line a b c d r o (.ref (r+2)) (.ref (r+3)) (.ref (r+4)) k
def ft (s:Stmt) (q:Str):Obj:={cls:= .none,data:= .func (yT s q)}
def fn (s:Stmt) (q:Str) (d m c:h_):Obj:={cls:= .type "function",data:= .func {yT s q with globals:=3,defaults:=d,pyModule:=m,code:=c}}
def en (P:g9) (n:Str) (t:Nat) (v:h_):gh:=⟨PyData.keyHash P n,.str n t,v⟩
def ld (l:List (Nat×Obj)) (t:BT):BT:=l.foldl (fun t x=>t.ins x.1 x.2) t
def sv (n:String) (t:Nat):h_:= .str (fz n) t
def er (P:g9) (n:Str) (t a:Nat):gh:=en P n t (.ref a)
def sj (t:Nat):List Str->List h_| []=> []|n::r=> .str n t::sj (t+1) r
def oh (c:Nat) (l:List (Nat×Nat)):List h_:=l.flatMap fun x=> [.int x.1 0,.int c 0,.ref x.2]
def fi (s:Stmt):Str×Nat×Nat×List Str:=match s with
 | .FunctionDef n a _ _ _ _ sc _ _ p=>(n,p.line,a.args.length,sc.names.filterMap fun x=>match x.2 with| .local=>some x.1|_=>none)
 | .ClassDef n _ _ _ _ _ _ _ _ _ _=>(n,0,0,[])
 |_=>default
def qn (i j:Nat):Str:=⟨⟨(fi (st i)).1.cps.toList++46::(fi (me i j)).1.cps.toList⟩⟩
def df (a:Nat) (s:Stmt) (q:Str) (m:h_) (t:Nat) (d:h_):List (Nat×Obj):=
 [(a,sq []),(a+1,fl []),(a+2,sq (sj (t+3) (fi s).2.2.2)),(a+3,sq []),(a+4,ft s q),(a+5,co (fi s).1 q t (fi s).2.1 (fi s).2.2.1 0 0 3 a true (t+3+(fi s).2.2.2.length)),(a+6,fn s q d m (.ref (a+5)))]
def n_ (a:Nat) (s:Stmt) (q:Str) (m:h_) (t:Nat) (d:h_):List (Nat×Obj):=
 [(a,sq []),(a+1,fl []),(a+2,ft s q),(a+3,cb (fi s).1 q t (fi s).2.1 (fi s).2.2.1 0 0 3 a true (.none) (.none) (.ref (a+2)) (t+3)),(a+4,fn s q d m (.ref (a+3)))]
def d (a i:Nat) (m:h_) (t:Nat) (v:h_:= .none):List (Nat×Obj):=df a (st i) (fi (st i)).1 m t v
def e (a i j:Nat) (m:h_) (t:Nat) (v:h_:= .none):List (Nat×Obj):=df a (me i j) (qn i j) m t v
def d5 (a i:Nat) (m:h_) (t:Nat) (v:h_:= .none):List (Nat×Obj):=n_ a (st i) (fi (st i)).1 m t v
def e5 (a i j:Nat) (m:h_) (t:Nat) (v:h_:= .none):List (Nat×Obj):=n_ a (me i j) (qn i j) m t v
def dr (a i:Nat) (m:h_) (t:Nat):Nat->List (Nat×Obj)|0=> []|k+1=>d a i m t++dr (a+7) (i+1) m (t+6+(fi (st i)).2.2.2.length) k
def mr (a i j:Nat) (m:h_) (t:Nat):Nat->List (Nat×Obj)|0=> []|k+1=>e a i j m t++mr (a+7) i (j+1) m (t+6+(fi (me i j)).2.2.2.length) k
def dc (l:List gh) (k:Nat):Obj:={cls:= .type "dict",data:= .dict l.toArray k}
def bf (c:String) (l:List h_):Obj:={cls:= .type c,data:= .fields l.toArray}
def kc (P:g9) (a:Nat) (n:String) (m:h_) (t l:Nat) (ms:List (String×Nat×Nat×Nat)) (b z:Nat) (ss:List String) (s0:Option h_) (bs:List h_) (es:List gh) (k:Nat):List (Nat×Obj):=
 let nZ:=en P "__firstlineno__" (t+11) (.int l (t+10))::ms.map (fun x=>er P x.1 x.2.1 x.2.2.1)++ [er P "__static_attributes__" (z+ss.length) b]
 [(a+1,bf "builtin_function_or_method" [.builtin "type.__prepare__",.type "type"]),(a+2,dc (en P "__module__" (t+7) m::en P "__qualname__" (t+9) (sv n (t+8))::nZ) (ms.length+4)),(a+3,sq []),(a+4,fl (oh 4 (ms.map fun x=>(x.2.2.2,x.2.2.1 - 1)))),
  (a+5,cb n n (t+2) l 0 0 0 0 (a+3) false (.none) (.none) (.none) (t+5)),(a+6,{cls:= .type "frame",dict:=none,data:= .plain,slots:= #[some (.ref (a+5)),some (.ref 3),some (.ref (a+2)),none,some m,none,some (.ref 0)]}),
  (b,sq (sj z (ss.map fz))),(b+1,dc (en P "__module__" (t+7) m::nZ++es) k),
  (b+2,{cls:= .type "type",dict:=none,data:= .cls {name:=n,bases:=bs,mro:= .ref (b+2)::bs++(match s0 with|none=> []|_=> [.type "object"]),ns:=b+1,qualname:=n,hasDict:=true,subclasses:= []},slots:= #[s0,none,some (sv n t),some (sv n (t+8)),some (.builtin "object.__new__"),some (.bool true)]})]
def kx (c k:Nat):List (Nat×Obj):= [(k,bf "super" [.ref c,.ref c,.ref c]),(k+1,bf "builtin_function_or_method" [.builtin "object.__init_subclass__",.ref c])]
def ka (P:g9) (a:Nat) (n:String) (m:h_) (t l:Nat) (ms:List (String×Nat×Nat×Nat)) (b z:Nat) (ss:List String):List (Nat×Obj):=
 (a,sq [])::(b+3,bf "getset_descriptor" [sv "__dict__" (z+ss.length+1),.ref (b+2),.builtin "function.__dict__",.builtin "function.__dict__#set"])::(b+4,bf "getset_descriptor" [sv "__weakref__" (z+ss.length+3),.ref (b+2),.builtin "ExceptionGroup.__weakref__",.none])::
  kc P a n m t l ms b z ss none [.type "object"] [er P "__dict__" (z+ss.length+2) (b+3),er P "__weakref__" (z+ss.length+4) (b+4),en P "__doc__" (z+ss.length+5) (.none)] 4++kx (b+2) (b+5)
def kb (P:g9) (a:Nat) (n:String) (m:h_) (t l:Nat) (ms:List (String×Nat×Nat×Nat)) (b z:Nat) (ss:List String):List (Nat×Obj):=
 (a,sq [.ref 982])::kc P a n m t l ms b z ss (some (.ref a)) [.ref 982] [en P "__doc__" (z+ss.length+1) (.none)] 2++kx (b+2) (b+3)
def dl (l:List (List (Nat×Obj))) (t:BT):BT:=l.foldl (fun t x=>ld x t) t
def m2:h_:=sv "emacs.casefold" 248
def m3:h_:=sv "emacs.regsets" 285
def m4:h_:=sv "emacs.regnodes" 393
def m5:h_:=sv "emacs.regcode" 694
def m6:h_:=sv "emacs.regplaces" 888
def m7:h_:=sv "emacs.regmachine" 932
def m8:h_:=sv "emacs.searching" 1103
def m9:h_:=sv "emacs.syntax" 1184
def zl:h_:=sv "emacs.searchcommands" 1381
def tH:h_:=sv "emacs.gap" 1469
def nY:h_:=sv "emacs.objects" 1588
def tG:h_:=sv "emacs.markers" 1632
def yS:h_:=sv "emacs.buffer" 1730
def zk:h_:=sv "emacs.buffers" 1869
def nW:h_:=sv "emacs.editing" 2008
def sf:h_:=sv "emacs.amalgam" 2089
def tF:h_:=sv "emacs.editor" 2120
def tE:h_:=sv "emacs.matchdata" 2334
def lR:h_:=sv "emacs.narrowing" 2433
def yR:h_:=sv "law_on0079_01" 2446
def lines:List h_:=oh 0 [(1,20),(5,27),(10,47),(12,52),(17,59),(22,66),(26,73),(30,80),(32,87),(34,94),(44,102),(49,107),(59,114),(64,121),(80,128),(82,135),(84,142),(102,149),(116,154),(123,163),(125,170),(127,177),(129,184),(131,191),(133,198),(155,240),(312,364),(318,372),(325,393),(411,475),(415,482),(420,489),(423,496),(426,503),(430,510),(453,517),(459,538),(569,619),(575,626),(580,633),(585,640),(593,647),(600,654),(615,661),(633,708),(635,713),(644,720),(679,791),(681,798),(694,805),(696,810),(698,817),(703,824),(712,831),(721,838),(723,845),(725,852),(727,859),(730,866),(789,957),(800,992),(839,1062),(904,1166),(965,1272),(968,1279),(973,1286),(976,1293),(980,1300),(987,1307),(992,1314),(1004,1322),(1007,1329),(1013,1350),(1113,1504),(1151,1581),(1158,1588),(1163,1595),(1165,1602),(1172,1609),(1182,1614),(1192,1619),(1205,1624)]
def names (P:g9):List gh:= [en P "__doc__" 166 (.none),en P "__package__" 167 (.none),en P "__loader__" 168 (.builtin "__main__.__loader__#opaque"),en P "__spec__" 169 (.none),er P "__annotations__" 170 6,er P "__builtins__" 171 4,en P "__file__" 173 (sv "/claim/cut.py" 172),en P "__cached__" 174 (.none),er P "_wall" 193 21,er P "LispSignal" 226 38,er P "standard_messages" 232 48,er P "message_with" 238 53,er P "message_of" 247 60,er P "downcase" 256 67,er P "upcase" 263 74,er P "fold" 270 81,er P "is_upper" 277 88,er P "is_lower" 284 95,er P "CLASSES" 304 96,en P "CLOSES" 306 (.int 93 305),en P "OPENS" 308 (.int 91 307),en P "COLON" 310 (.int 58 309),en P "MINUS" 312 (.int 45 311),en P "NOT" 314 (.int 94 313),en P "UNMATCHED" 316 (sv "Unmatched [ or [^" 315),er P "class_end" 325 103,er P "read_class" 331 108,er P "read_part" 340 115,er P "read_set" 354 122,er P "is_letter" 361 129,er P "is_figure" 368 136,er P "is_of_ascii_class" 376 143,er P "is_of_class" 386 150,er P "is_in_ranges" 392 155,er P "PLACES" 416 156,er P "SYMBOL_PLACES" 423 157,en P "KINDS_regnodes" 425 (.str (fz " w_.()'\"\\/$<>@!|") 424),en P "MOST_TIMES" 427 (.int 65535 426),er P "bad_regexp" 434 164,er P "sign_of" 441 171,er P "sign_at" 449 178,er P "is_escaped" 458 185,er P "joined" 465 192,er P "Frame" 521 230,er P "Parsing" 685 354,er P "parse_regexp" 693 365,en P "MOST_ROWS" 697 (.int 20000 696),er P "PLAIN" 703 366,er P "Regcode" 738 383,er P "Compiling" 867 465,er P "compile_node" 877 476,er P "compile_regexp" 887 483,en P "LINE_FEED_regplaces" 891 (.int 10 890),er P "is_word_at" 901 490,er P "is_symbol_at" 911 497,er P "is_bound" 920 504,er P "holds_at" 931 511,en P "LINE_FEED_regmachine" 935 (.int 10 934),en P "MOST_STEPS" 937 (.int 400000 936),er P "Choice" 970 528,er P "Regmachine" 1102 609,er P "is_here" 1117 620,er P "search_forward" 1129 627,er P "search_backward" 1141 634,er P "re_search_forward" 1157 641,er P "re_search_backward" 1172 648,er P "again" 1183 655,en P "WHITESPACE" 1187 (sv " " 1186),en P "WORD" 1189 (sv "w" 1188),en P "PUNCTUATION" 1191 (sv "." 1190),en P "INHERITS" 1193 (sv "@" 1192),en P "KINDS_syntax" 1195 (.str (fz " w_.()'\"\\/$<>@!|") 1194),en P "FLAGS" 1197 (sv "1234bcnp" 1196),er P "Syntax" 1259 700,er P "sorted_flags" 1265 709,er P "read_syntax" 1271 714,er P "SyntaxTable" 1365 781,er P "letters" 1371 792,er P "standard_table" 1380 799,er P "table_of" 1389 806,er P "codes_told" 1395 811,er P "went" 1405 818,er P "search_by" 1420 825,er P "re_search_by" 1436 832,er P "search_ahead" 1444 839,er P "search_back" 1452 846,er P "re_search_ahead" 1460 853,er P "re_search_back" 1468 860,er P "GapText" 1587 947,er P "Opaque" 1631 982,er P "Markers" 1729 1052,er P "Buffer" 1868 1158,er P "BufferTable" 2007 1262,er P "need_writable" 2016 1273,er P "reached" 2027 1280,er P "tell_ahead" 2037 1287,er P "tell_behind" 2048 1294,er P "text_in" 2057 1301,er P "hung_in" 2067 1308,er P "put_in" 2078 1315,er P "insert_at" 2088 1323,er P "Amalgam" 2119 1340,er P "Editor" 2333 1494,er P "MatchData" 2432 1571,er P "narrow" 2445 1582,er P "_law_draw" 2455 1589,er P "_law_pick" 2463 1596,er P "_law_editor" 2472 1603,er P "_law_fits" 2484 1610,er P "_law_sought" 2490 1615,er P "_law_searched" 2496 1620,er P "law" 2502 1625]
def md (P:g9) (nm:h_) (k n:Nat):Obj:={cls:= .type "dict",data:= .dict (en P "__name__" 165 nm::(names P).take (k - 1)).toArray n}
def T0 (P:g9):BT:=ld [(0,boot_o_0 P),(1,boot_o_1 P),(2,boot_o_2 P),(3,boot_o_3 P),(4,boot_o_4 P),(5,boot_o_5 P),(6,boot_o_6 P),(7,boot_o_7 P),(8,boot_o_8 P),(9,boot_o_9 P),(10,boot_o_10 P),(11,sq []),(12,fl (lines.take 0)),(13,cb "<module>" "<module>" 182 1 0 0 0 0 11 false (.none) (.none) (.none) 185),(14,{cls:= .type "frame",dict:=none,data:= .plain,slots:= #[some (.ref 13),some (.ref 3),some (.ref 3),none,some (sv "__main__" 164),none,some (.ref 0)]})] .nil
def T1 (P:g9):BT:=ld [(2,{cls:= .none,data:= .dict #[en P "type.__subclasses__.Exception.0" 223 (.int 38 0),en P "type.__subclasses__.Exception.n" 224 (.int 1 0)] 2}),(3,md P (sv "emacs.casefold" 248) 15 15),(12,fl (lines.take 18)),(15,sq []),(16,fl []),(17,sq [sv "k" 190]),(18,sq []),(19,ft (st 0) "_wall"),(20,co "_wall" "_wall" 187 1 1 0 0 3 15 true 191),(21,fn (st 0) "_wall" (.none) (sv "__main__" 164) (.ref 20)),(22,sq [.type "Exception"]),(23,{cls:= .type "builtin_function_or_method",data:= .fields #[.builtin "type.__prepare__",.type "type"]}),(24,{cls:= .type "dict",data:= .dict #[en P "__module__" 203 (sv "emacs.errors" 194),en P "__qualname__" 205 (sv "LispSignal" 204),en P "__firstlineno__" 207 (.int 5 206),er P "__init__" 216 35,er P "__static_attributes__" 219 36] 5}),(25,sq []),(26,fl [.int 7 0,.int 4 0,.ref 34]),(27,cb "LispSignal" "LispSignal" 198 5 0 0 0 0 25 false (.none) (.none) (.none) 201),(28,{cls:= .type "frame",dict:=none,data:= .plain,slots:= #[some (.ref 27),some (.ref 3),some (.ref 24),none,some (sv "emacs.errors" 194),none,some (.ref 0)]}),(29,sq []),(30,fl []),(31,sq [sv "self" 211,sv "symbol" 212,sv "data" 213]),(32,sq []),(33,ft (me 2 0) "LispSignal.__init__"),(34,co "__init__" "LispSignal.__init__" 208 7 3 0 0 3 29 true 214),(35,fn (me 2 0) "LispSignal.__init__" (.none) (sv "emacs.errors" 194) (.ref 34)),(36,sq [sv "data" 217,sv "symbol" 218]),(37,{cls:= .type "dict",data:= .dict #[en P "__module__" 203 (sv "emacs.errors" 194),en P "__firstlineno__" 207 (.int 5 206),er P "__init__" 216 35,er P "__static_attributes__" 219 36,er P "__weakref__" 221 39,en P "__doc__" 222 (.none)] 3}),(38,{cls:= .type "type",dict:=none,data:= .cls {name:="LispSignal",bases:= [.type "Exception"],mro:= [.ref 38,.type "Exception",.type "BaseException",.type "object"],ns:=37,qualname:="LispSignal",hasDict:=true,subclasses:= []},slots:= #[some (.ref 22),none,some (sv "LispSignal" 196),some (sv "LispSignal" 204),some (.builtin "Exception.__new__"),some (.bool true)]}),(39,{cls:= .type "getset_descriptor",data:= .fields #[sv "__weakref__" 220,.ref 38,.builtin "ExceptionGroup.__weakref__",.none]}),(40,{cls:= .type "super",data:= .fields #[.ref 38,.ref 38,.ref 38]}),(41,{cls:= .type "builtin_function_or_method",data:= .fields #[.builtin "object.__init_subclass__",.ref 38]}),(42,sq []),(43,fl []),(44,sq []),(45,sq []),(46,ft (st 3) "standard_messages"),(47,co "standard_messages" "standard_messages" 227 10 0 0 0 3 42 true 230),(48,fn (st 3) "standard_messages" (.none) (sv "emacs.errors" 194) (.ref 47)),(49,sq []),(50,fl []),(51,ft (st 4) "message_with"),(52,cb "message_with" "message_with" 233 12 3 0 0 3 49 true (.none) (.none) (.ref 51) 236),(53,fn (st 4) "message_with" (.none) (sv "emacs.errors" 194) (.ref 52)),(54,sq []),(55,fl []),(56,sq [sv "name" 242,sv "data" 243,sv "shown" 244]),(57,sq []),(58,ft (st 5) "message_of"),(59,co "message_of" "message_of" 239 17 3 0 0 3 54 true 245),(60,fn (st 5) "message_of" (.none) (sv "emacs.errors" 194) (.ref 59)),(61,sq []),(62,fl []),(63,sq [sv "code" 253]),(64,sq []),(65,ft (st 7) "downcase"),(66,co "downcase" "downcase" 250 22 1 0 0 3 61 true 254),(67,fn (st 7) "downcase" (.none) (sv "emacs.casefold" 248) (.ref 66))] (T0 P)
def T2 (P:g9):BT:=ld [(3,md P m3 32 32),(12,fl (lines.take 48)),(96,sq [sv "alnum" 287,sv "alpha" 288,sv "ascii" 289,sv "blank" 290,sv "cntrl" 291,sv "digit" 292,sv "graph" 293,sv "lower" 294,sv "multibyte" 295,sv "nonascii" 296,sv "print" 297,sv "punct" 298,sv "space" 299,sv "unibyte" 300,sv "upper" 301,sv "word" 302,sv "xdigit" 303])] (dl [dr 68 8 m2 257 4,dr 97 20 m3 317 1,d5 104 21 m3 326,dr 109 22 m3 332 4] (T1 P))
def T3 (P:g9):BT:=ld [(3,md P m4 44 44),(12,fl (lines.take 72)),(156,{cls:= .type "dict",data:= .dict #[⟨96,.int 96 395,sv "start" 396⟩,⟨39,.int 39 397,sv "end" 398⟩,⟨61,.int 61 399,sv "point" 400⟩,⟨98,.int 98 401,sv "bound" 402⟩,⟨66,.int 66 403,sv "inside" 404⟩,⟨60,.int 60 405,sv "wordstart" 406⟩,⟨62,.int 62 407,sv "wordend" 408⟩] 7}),(157,{cls:= .type "dict",data:= .dict #[⟨60,.int 60 417,sv "symbolstart" 418⟩,⟨62,.int 62 419,sv "symbolend" 420⟩] 2})] (dl [dr 137 26 m3 369 2,d5 151 28 m3 387,dr 158 34 m4 428 5] (T2 P))
def T4 (P:g9):BT:=ld [(3,md P m4 45 45),(12,fl (lines.take 75))] (dl [ka P 193 "Frame" m4 466 133 [("__init__",486,206,135),("put",494,213,142),("part",501,220,146),("node",508,227,151)] 228 509 ["done","is_loose","nodes","number","word"],mr 200 39 0 m4 478 4] (T3 P))
def T5 (P:g9):BT:=ld [(3,md P m4 46 46),(12,fl (lines.take 78))] (dl [ka P 235 "Parsing" m4 522 155 [("__init__",541,248,157),("top",548,255,163),("code",555,262,166),("whole",562,269,172),("step",572,276,179),("repeated",583,283,198),("repeat",594,290,211),("escaped",603,297,215),("by_syntax",612,304,240),("by_symbol",620,311,247),("back",626,316,253),("opened",635,323,258),("closed",644,330,274),("number",653,337,281),("bounds",663,344,290),("counted",673,351,304)] 352 674 ["codes","frames","groups","place"],mr 242 40 0 m4 534 10,e5 312 40 10 m4 621,mr 317 40 11 m4 627 5] (T4 P))
def T6 (P:g9):BT:=ld [(3,md P m5 50 50),(12,fl (lines.take 84)),(366,sq [sv "any" 698,sv "set" 699,sv "syntax" 700,sv "at" 701,sv "back" 702])] (dl [dr 359 41 m4 686 1,ka P 367 "Regcode" m5 704 318 [("__init__",726,380,320)] 381 727 ["folds","groups","marks","rows"],mr 374 45 0 m5 716 1] (T5 P))
def T7 (P:g9):BT:=ld [(3,md P m5 51 51),(12,fl (lines.take 87))] (dl [ka P 388 "Compiling" m5 739 325 [("__init__",758,401,327),("label",765,408,335),("wait",774,415,339),("run",784,422,345),("node",790,427,356),("alternatives",803,434,373),("repeated",820,441,381),("split",830,448,393),("loop",844,455,396),("settled",853,462,403)] 463 854 ["folds","labels","marks","places","rows","waiting"],mr 395 46 0 m5 751 4,e5 423 46 4 m5 785,mr 428 46 5 m5 791 5] (T6 P))
def T8 (P:g9):BT:=ld [(3,md P m7 60 60),(12,fl (lines.take 105))] (dl [dr 470 47 m5 868 2,dr 484 51 m6 892 4] (T7 P))
def T9 (P:g9):BT:=ld [(3,md P m7 61 61),(12,fl (lines.take 108))] (dl [ka P 512 "Choice" m7 938 453 [("__init__",959,525,455)] 526 960 ["changes","place","row"],mr 519 58 0 m7 950 1] (T8 P))
def se (P:g9):BT:=ld [(3,md P m7 62 62),(12,fl (lines.take 111)),(540,sq [.int 0 983,.int 400000 936])] (dl [ka P 533 "Regmachine" m7 971 459 [("__init__",995,547,461),("match_at",1001,552,474),("span",1011,559,486),("run",1023,566,490),("go_back",1034,573,516),("keep",1044,580,521),("asked",1054,587,525),("is_taken",1064,594,541),("is_in_set",1070,599,551),("repeated",1083,606,559)] 607 1084 ["changes","choices","code","kept","limit","marks","point","steps","table","taken","view"],e 541 59 0 m7 984 (.ref 540),e5 548 59 1 m7 996,mr 553 59 2 m7 1002 6,e5 595 59 8 m7 1065,mr 600 59 9 m7 1071 1] (T9 P))
def sd (P:g9):BT:=ld [(3,md P m9 74 74),(12,fl (lines.take 129))] (dl [dr 614 61 m8 1105 6] (se P))
def r_ (P:g9):BT:=ld [(3,md P m9 76 76),(12,fl (lines.take 135))] (dl [ka P 656 "Syntax" m9 1198 615 [("__init__",1219,669,617),("has",1227,676,622),("is_escape",1234,683,625),("is_word_part",1241,690,628),("style",1248,697,631)] 698 1249 ["flags","kind","match"],mr 663 74 0 m9 1210 5,d5 705 75 m9 1260] (sd P))
def r9 (P:g9):BT:=ld [(3,md P m9 77 77),(12,fl (lines.take 138))] (dl [d5 710 76 m9 1266] (r_ P))
def r8 (P:g9):BT:=ld [(3,md P m9 78 78),(12,fl (lines.take 141)),(722,sq [.none])] (dl [ka P 715 "SyntaxTable" m9 1272 644 [("__init__",1291,729,646),("modify",1300,736,650),("modify_all",1311,743,653),("modify_range",1321,750,658),("own",1330,757,661),("at",1340,764,665),("kind_of",1348,771,674),("copy",1355,778,677)] 779 1356 ["parent","rows"],e 723 77 0 m9 1284 (.ref 722),mr 730 77 1 m9 1292 7] (r9 P))
def r7 (P:g9):BT:=ld [(3,md P tH 89 89),(12,fl (lines.take 174)),(819,sq []),(820,fl []),(821,sq [sv "editor" 1409,sv "codes" 1410,sv "count" 1411,sv "point" 1412,sv "found" 1413]),(822,sq [sv "codes" 1414,sv "buffer" 1415,sv "high" 1416,sv "low" 1417]),(823,ft (st 84) "search_by"),(824,co "search_by" "search_by" 1406 703 3 0 0 3 819 true 1418),(825,fn (st 84) "search_by" (.none) zl (.ref 824)),(826,sq []),(827,fl []),(828,sq [sv "editor" 1424,sv "codes" 1425,sv "count" 1426,sv "found" 1427]),(829,sq [sv "buffer" 1428,sv "code" 1429,sv "high" 1430,sv "low" 1431,sv "point" 1432,sv "table" 1433]),(830,ft (st 85) "re_search_by"),(831,co "re_search_by" "re_search_by" 1421 712 3 0 0 3 826 true 1434),(832,fn (st 85) "re_search_by" (.none) zl (.ref 831))] (dl [dr 786 78 m9 1366 2,dr 800 81 zl 1383 1,d5 807 82 zl 1390,dr 812 83 zl 1396 1,dr 833 86 zl 1437 4] (r8 P))
def r6 (P:g9):BT:=ld [(3,md P tH 90 90),(12,fl (lines.take 177))] (dl [ka P 861 "GapText" tH 1471 730 [("__init__",1491,874,732),("size",1498,881,738),("code",1506,888,741),("codes",1516,895,746),("move_gap",1525,902,754),("widen_gap",1534,909,765),("insert",1543,916,771),("delete",1552,923,777),("put",1561,930,780),("narrow_gap",1568,937,783),("is_whole",1575,944,786)] 945 1576 ["cells","gap_end","gap_start","room"],mr 868 91 0 tH 1483 11] (r7 P))
def r5 (P:g9):BT:=ld [(3,md P tG 91 91),(12,fl (lines.take 180))] (dl [ka P 952 "Opaque" nY 1590 789 [("shown",1608,965,791),("kind",1615,972,794),("same_as",1623,979,797)] 980 1624 [],mr 959 93 0 nY 1602 3] (r6 P))
def r4 (P:g9):BT:=ld [(3,md P tG 92 92),(12,fl (lines.take 183))] (dl [ka P 987 "Markers" tG 1634 800 [("__init__",1652,1000,802),("numbers",1659,1007,805),("put",1668,1014,808),("drop",1676,1021,812),("within",1687,1028,815),("inserted",1699,1035,822),("deleted",1710,1042,828),("replaced",1720,1049,836)] 1050 1721 ["rows"],mr 994 95 0 tG 1646 8] (r5 P))
def rZ (P:g9):BT:=ld [(3,md P yS 92 92)] (r4 P)
def rY (P:g9):BT:=ld [(3,md P yS 93 93),(12,fl (lines.take 186)),(982,{cls:= .type "type",dict:=none,data:= .cls {name:="Opaque",bases:= [.type "object"],mro:= [.ref 982,.type "object"],ns:=981,qualname:="Opaque",hasDict:=true,subclasses:= [.ref 1158]},slots:= #[none,none,some (sv "Opaque" 1590),some (sv "Opaque" 1598),some (.builtin "object.__new__"),some (.bool true)]}),(1064,sq [.int 8 1744])] (dl [kb P 1057 "Buffer" yS 1732 839 [("__init__",1754,1071,841),("shown",1761,1078,863),("kind",1768,1085,866),("begin",1775,1092,869),("end",1782,1099,872),("size",1789,1106,875),("code_at",1797,1113,878),("codes",1806,1120,883),("goto",1814,1127,886),("tick",1821,1134,890),("is_modified",1828,1141,893),("set_modified",1836,1148,896),("touch",1844,1155,899)] 1156 1845 ["begv","codes_ticks","file","is_live","is_read_only","listeners","locals","mark","markers","name","number","overlays","point","props","saved_ticks","syntax","text","ticks","undo","zv"],e 1065 97 0 yS 1745 (.ref 1064),mr 1072 97 1 yS 1755 12] (rZ P))
def rX (P:g9):BT:=ld [(3,md P zk 93 93)] (rY P)
def rW (P:g9):BT:=ld [(3,md P zk 94 94),(12,fl (lines.take 189)),(1196,sq [sv "" 1916])] (dl [ka P 1161 "BufferTable" zk 1871 904 [("__init__",1889,1174,906),("by_number",1897,1181,913),("by_name",1906,1188,916),("create",1915,1195,922),("fresh_name",1925,1203,931),("rename",1935,1210,934),("select",1943,1217,937),("set_current",1951,1224,942),("bury",1959,1231,947),("other",1968,1238,950),("kill",1976,1245,956),("new_marker",1984,1252,959),("marker_at",1994,1259,962)] 1260 1995 ["current","last_marker","last_number","order","rows"],mr 1168 99 0 zk 1883 4,e 1197 99 4 zk 1917 (.ref 1196),mr 1204 99 5 zk 1926 8] (rX P))
def rV (P:g9):BT:=ld [(3,md P sf 102 102),(12,fl (lines.take 213)),(1316,sq [.bool false])] (dl [dr 1267 101 nW 2010 7,d 1317 108 nW 2079 (.ref 1316)] (rW P))
def rU (P:g9):BT:=ld [(3,md P tF 103 103),(12,fl (lines.take 216))] (dl [ka P 1324 "Amalgam" sf 2091 1007 [("__init__",2109,1337,1009)] 1338 2110 ["many","sort"],mr 1331 110 0 sf 2103 1] (rV P))
def rT (P:g9):BT:=ld [(3,md P tF 104 104),(12,fl (lines.take 219))] (dl [ka P 1345 "Editor" tF 2122 1013 [("__init__",2143,1358,1015),("current",2150,1365,1047),("is_asking",2157,1372,1050),("maps",2164,1379,1053),("lookup",2172,1386,1056),("inserting",2180,1393,1059),("spec",2188,1400,1062),("run",2198,1407,1065),("hand",2207,1414,1073),("need_writable",2214,1421,1076),("shift_select",2222,1428,1079),("set_mark",2230,1435,1082),("joined_sort",2238,1442,1085),("before_command",2246,1449,1088),("after_command",2254,1456,1091),("ask",2263,1463,1094),("end_question",2270,1470,1099),("error",2278,1477,1102),("insert_event",2287,1484,1107),("insert_text",2295,1491,1110)] 1492 2296 ["abbrevs","amalgam","asker","buffers","commands","files","fill_column","further","global_map","goal","kills","last_expansion","local_maps","loop","machine","marks","matches","message","minor_maps","modes","panes","question_map","questions","rectangle","registers","replacing","rules","tab_width","undoing","windows"],mr 1352 112 0 tF 2134 20] (rU P))
def rS (P:g9):BT:=ld [(3,md P tE 104 104)] (rT P)
def rR (P:g9):BT:=ld [(3,md P tE 105 105),(12,fl (lines.take 222))] (dl [ka P 1499 "MatchData" tE 2336 1113 [("__init__",2354,1512,1115),("set",2362,1519,1118),("span",2370,1526,1121),("beginning",2379,1533,1126),("ending",2387,1540,1130),("as_list",2397,1547,1133),("restore",2405,1554,1142),("translate",2413,1561,1145),("replaced",2423,1568,1148)] 1569 2424 ["spans"],mr 1506 114 0 tE 2348 9] (rS P))
def ND (P:g9):BT:=ld [(3,md P yR 113 113),(12,fl (lines.take 246))] (dl [dr 1576 116 lR 2435 1,dr 1583 118 yR 2448 4,d5 1611 122 yR 2485,d5 1616 123 yR 2491,d5 1621 124 yR 2497] (rR P))
def UT:List Stmt:=gz.main.body
def Sz:Env:={scope:=gz.main.scope,locals:=mainNs,globals:=mainNs,cells:= [],code:= .ref 13,frame:=some 14}
def sT (T:BT) (n t:Nat) (os:gq):SharedT:={tree:=T,n:=n,life:={},gens:={toList:= []},drawn:={},toks:=t,os:=os}
abbrev pz:Pos:=⟨0,0,0,0⟩
def PI (w:g8) (N:Nat) (S S':g9->BT) (n t n' t' a k:Nat) (x x':Pos):Prop:=∀(p:gP) (b:List Stmt) (os:gq),segRunT PySem.treeTable p w 11 (some (.ref 6)) 1 N (sT (S w.params) n t os) (piecesOf ((UT.drop a).take k) Sz (.body b Sz) x [eF pz])=some (.next,sT (S' w.params) n' t' os,.body b Sz,x')
theorem Y0 {w:g8}{N:Nat}{S S':g9->BT}{n t n' t' a k:Nat}{x x':Pos}(h:∀(p:gP) (b:List Stmt) (os:gq),PySem.W.Fast.tw10110043849684766642 PySem.treeTable p w 11 (some (.ref 6)) 1 N (sT (S w.params) n t os) (piecesOf ((UT.drop a).take k) Sz (.body b Sz) x [eF pz])=some (.next,sT (S' w.params) n' t' os,.body b Sz,x')):PI w N S S' n t n' t' a k x x':=by
 intro p b os
 rw[PySem.W.Fast.te10110043849684766642]
 exact h p b os
def bd:List Stmt:=behindTheImports gz
abbrev cE:Code:= .body bd Sz
theorem yQ:bd=UT:=by rfl'
theorem Lb:UT.drop 125= []:=by rfl'
theorem pre (w:g8) (os:gq):topGo dO gz w 11 (some (.ref 6)) 12 ⟨eE w.params,ez [],boot_drawn,boot_toks,os⟩ (topStub gz)=
  some (dZ (sT (T0 w.params) 15 187 os),⟨denote dO cE,cE,pz,[eF pz]⟩):=by
 rfl'
theorem block (w:g8) (os:gq):segRun dO gz w 11 (some (.ref 6)) 1 1 (dZ (sT (T0 w.params) 15 187 os))
   (blockOf bd Sz cE pz [eF pz])=
  some (.next,dZ (sT (T0 w.params) 15 187 os),cE,pz):=by
 rfl'
theorem fin (w:g8) (os:gq):topRun dO gz w 11 (some (.ref 6)) 2 (dZ (sT (ND w.params) 1626 2503 os))
   (restOf (UT.drop 125) Sz cE {line:=1205,col:=0,endLine:=1233,endCol:=77} [eF pz])=some (dZ (sT (ND w.params) 1626 2503 os)):=by
 rw[Lb]
 rfl'
theorem B8:opening gz=plainProg gz.main.scope.names:=by rfl'
theorem FI (s:g7):fenceModules? gz s=some s:=by rfl'
theorem size (w:g8):((eE w.params).isNs mainGlobals && (ez ([]:List GenState)).size==0,(eE w.params).objs.size,(eE w.params).nsMap mainGlobals "__annotations__")=(true,11,some (.ref 6)):=by rfl'
def qv:gP:={gz with main:={gz.main with body:= [st 124]}}
def lo:List Str:=(["_wall","LispSignal","standard_messages","message_with","message_of","downcase","upcase","fold","is_upper","is_lower","CLASSES","CLOSES","OPENS","COLON","MINUS","NOT","UNMATCHED","class_end","read_class","read_part","read_set","is_letter","is_figure","is_of_ascii_class","is_of_class","is_in_ranges","PLACES","SYMBOL_PLACES","KINDS_regnodes","MOST_TIMES","bad_regexp","sign_of","sign_at","is_escaped","joined","Frame","Parsing","parse_regexp","MOST_ROWS","PLAIN","Regcode","Compiling","compile_node","compile_regexp","LINE_FEED_regplaces","is_word_at","is_symbol_at","is_bound","holds_at","LINE_FEED_regmachine","MOST_STEPS","Choice","Regmachine","is_here","search_forward","search_backward","re_search_forward","re_search_backward","again","WHITESPACE","WORD","PUNCTUATION","INHERITS","KINDS_syntax","FLAGS","Syntax","sorted_flags","read_syntax","SyntaxTable","letters","standard_table","table_of","codes_told","went","search_by","re_search_by","search_ahead","search_back","re_search_ahead","re_search_back","GapText","Opaque","Markers","Buffer","BufferTable","need_writable","reached","tell_ahead","tell_behind","text_in","hung_in","put_in","insert_at","Amalgam","Editor","MatchData","narrow","_law_draw","_law_pick","_law_editor","_law_fits","_law_sought","_law_searched"]:List String).map fz
def HF (P:g9):Heap:=absHeap (ND P) 1626 {}
def lQ:List Nat:= [3,0,4,366,38,37,230,229,354,353,383,382,465,464,609,608,700,699,781,780,947,946,982,981,1052,1051,1158,1157,1262,1261,1340,1339,1494,1493,1571,1570,35,34,67,66,81,80,171,170,192,191,206,205,213,212,227,226,248,247,255,254,262,261,269,268,276,275,365,364,380,379,401,400,415,414,422,421,427,426,462,461,476,475,483,482,547,546,540,552,551,559,558,566,565,587,586,594,593,620,619,627,626,634,633,641,640,648,647,655,654,669,668,709,708,714,713,729,728,722,743,742,792,791,799,798,806,805,811,810,818,817,825,824,832,831,839,838,846,845,853,852,860,859,874,873,881,880,888,887,895,894,902,901,909,908,916,915,1000,999,1007,1006,1035,1034,1071,1070,1064,1092,1091,1099,1098,1106,1105,1113,1112,1120,1119,1127,1126,1155,1154,1174,1173,1181,1180,1188,1187,1195,1194,1217,1216,1224,1223,1273,1272,1280,1279,1287,1286,1294,1293,1301,1300,1308,1307,1315,1314,1323,1322,1316,1337,1336,1358,1357,1365,1364,1512,1511,1519,1518,1547,1546,1582,1581,1589,1588,1596,1595,1603,1602,1610,1609,1615,1614,1620,1619,1625,1624]
@[irreducible] noncomputable def KL (P:g9):Frag:=lQ.map fun a=>(a,((ND P).get a).getD default)
theorem W5 {t:BT}{n:Nat}{life:Life}{a:Addr}{o:Obj}(h:t.get a=some o) (hn:a<n) (hf:o.isFreed=false):(absHeap t n life).get? a=some o:=by
 unfold Heap.get?
 rw[absHeap_at,if_pos hn,h]
 obtain ⟨c,d,dt,e⟩:=o
 cases dt<;>first|rfl|cases hf
set_option tactic.hygienic true in
theorem Sy {t:BT}{n:Nat}{life:Life}:∀{K:Frag},(K.map fun x=>t.get x.1)=K.map (fun x=>some x.2)->(K.all fun x=>fZ x.1 n && !x.2.isFreed)=true->K.In (absHeap t n life)
 | [],_,_,a,o,h=>by cases h
 |(b,p)::K,h1,h2,a,o,h=>by
  rw[fP,g6,g6] at h2
  obtain ⟨⟨h3,h4⟩,h5⟩:=h2
  rw[gb,gb] at h1
  injection h1 with q1 q2
  rw[dD] at h
  split at h
  ·rename_i e
   cases h
   obtain rfl:a=b:=by simpa using e
   exact W5 q1 (gp h3) (by simpa using h4)
  ·exact Sy q2 h5 a o h
theorem FH (P:g9):((KL P).map fun x=>(ND P).get x.1)=(KL P).map fun x=>some x.2:=by rfl'
theorem yP (P:g9):((KL P).all fun x=>fZ x.1 1626 && !x.2.isFreed)=true:=by rfl'
theorem yO (P:g9):(KL P).In (HF P):=Sy (FH P) (yP P)
theorem q0 (w:g8):PI w 392 T0 T1 15 187 68 257 0 8 ⟨0,0,0,0⟩ ⟨22,0,25,15⟩:=Y0 fun p b os=>by rfl'
theorem q1 (w:g8):PI w 389 T1 T2 68 257 137 369 8 18 ⟨22,0,25,15⟩ ⟨82,0,83,27⟩:=Y0 fun p b os=>by rfl'
abbrev P2 (w:g8):Prop:=PI w 401 T2 T3 137 369 193 466 26 13 ⟨82,0,83,27⟩ ⟨131,0,132,65⟩
theorem q2:∀w:g8,P2 w:=byRow2 "special-get-raises" (P:=P2) (fun w=>Y0 fun p b os=>by rfl') (fun w=>Y0 fun p b os=>by rfl')
theorem q3 (w:g8):PI w 322 T3 T4 193 466 235 522 39 1 ⟨131,0,132,65⟩ ⟨133,0,154,63⟩:=Y0 fun p b os=>by rfl'
theorem q5 (w:g8):PI w 292 T5 T6 359 686 388 739 41 5 ⟨155,0,311,42⟩ ⟨318,0,324,26⟩:=Y0 fun p b os=>by rfl'
theorem q4 (w:g8):PI w 716 T4 T5 235 522 359 686 40 1 ⟨133,0,154,63⟩ ⟨155,0,311,42⟩:=Y0 fun p b os=>by rfl'
theorem q7 (w:g8):PI w 238 T7 T8 470 868 512 938 47 11 ⟨325,0,410,20⟩ ⟨452,0,452,10⟩:=Y0 fun p b os=>by rfl'
theorem q8 (w:g8):PI w 227 T8 T9 512 938 533 971 58 1 ⟨452,0,452,10⟩ ⟨453,0,458,30⟩:=Y0 fun p b os=>by rfl'
theorem q6 (w:g8):PI w 537 T6 T7 388 739 470 868 46 1 ⟨318,0,324,26⟩ ⟨325,0,410,20⟩:=Y0 fun p b os=>by rfl'
theorem lP (w:g8):PI w 284 se sd 614 1103 656 1198 60 14 ⟨459,0,567,40⟩ ⟨614,0,614,5⟩:=Y0 fun p b os=>by rfl'
theorem lN (w:g8):PI w 378 sd r_ 656 1198 710 1266 74 2 ⟨614,0,614,5⟩ ⟨633,0,634,60⟩:=Y0 fun p b os=>by rfl'
theorem lM (w:g8):PI w 27 r_ r9 710 1266 715 1272 76 1 ⟨633,0,634,60⟩ ⟨635,0,643,51⟩:=Y0 fun p b os=>by rfl'
theorem q9 (w:g8):PI w 543 T9 se 533 971 614 1103 59 1 ⟨453,0,458,30⟩ ⟨459,0,567,40⟩:=Y0 fun p b os=>by rfl'
theorem lK (w:g8):PI w 360 r8 r7 786 1366 861 1471 78 13 ⟨644,0,678,16⟩ ⟨729,0,729,8⟩:=Y0 fun p b os=>by rfl'
theorem lJ (w:g8):PI w 302 r6 r5 952 1588 987 1634 92 3 ⟨730,0,787,16⟩ ⟨799,0,799,8⟩:=Y0 fun p b os=>by rfl'
theorem lI (w:g8):PI w 457 r9 r8 715 1272 786 1366 77 1 ⟨635,0,643,51⟩ ⟨644,0,678,16⟩:=Y0 fun p b os=>by rfl'
theorem lH (w:g8):PI w 10 r4 rZ 1057 1730 1057 1732 96 1 ⟨800,0,837,17⟩ ⟨838,0,838,8⟩:=Y0 fun p b os=>by rfl'
theorem lG (w:g8):PI w 551 r7 r6 861 1471 952 1588 91 1 ⟨729,0,729,8⟩ ⟨730,0,787,16⟩:=Y0 fun p b os=>by rfl'
theorem lF (w:g8):PI w 458 r5 r4 987 1634 1057 1730 95 1 ⟨799,0,799,8⟩ ⟨800,0,837,17⟩:=Y0 fun p b os=>by rfl'
theorem lE (w:g8):PI w 647 rZ rY 1057 1732 1161 1869 97 1 ⟨838,0,838,8⟩ ⟨839,0,902,41⟩:=Y0 fun p b os=>by rfl'
theorem lD (w:g8):PI w 10 rY rX 1161 1869 1161 1871 98 1 ⟨839,0,902,41⟩ ⟨903,0,903,8⟩:=Y0 fun p b os=>by rfl'
theorem lC (w:g8):PI w 620 rX rW 1161 1871 1267 2008 99 1 ⟨903,0,903,8⟩ ⟨904,0,963,17⟩:=Y0 fun p b os=>by rfl'
theorem ly (w:g8):PI w 275 rW rV 1267 2008 1324 2091 100 10 ⟨904,0,963,17⟩ ⟨1006,0,1006,8⟩:=Y0 fun p b os=>by rfl'
theorem lu (w:g8):PI w 232 rV rU 1324 2091 1345 2122 110 2 ⟨1006,0,1006,8⟩ ⟨1012,0,1012,8⟩:=Y0 fun p b os=>by rfl'
theorem k_ (w:g8):PI w 862 rU rT 1345 2122 1499 2334 112 1 ⟨1012,0,1012,8⟩ ⟨1013,0,1111,17⟩:=Y0 fun p b os=>by rfl'
theorem kZ (w:g8):PI w 10 rT rS 1499 2334 1499 2336 113 1 ⟨1013,0,1111,17⟩ ⟨1112,0,1112,8⟩:=Y0 fun p b os=>by rfl'
theorem kY (w:g8):PI w 483 rS rR 1499 2336 1576 2433 114 1 ⟨1112,0,1112,8⟩ ⟨1113,0,1149,17⟩:=Y0 fun p b os=>by rfl'
theorem kX (w:g8):PI w 255 rR ND 1576 2433 1626 2503 115 10 ⟨1113,0,1149,17⟩ ⟨1205,0,1233,77⟩:=Y0 fun p b os=>by rfl'
abbrev lz:List Str:=Hd.lo
def sF (w:g8) (os:gq):g7:=⟨HF w.params,ez [],{},2503,os⟩
def Xq:g7->Bool:=fun s=>xlAt qv [] s && recOk (RowW.records aL.row.toRowW) s
theorem k1 (w:g8) (os:gq):(staticsOk (cO gz.main.body) (eE w.params) (HF w.params) && namesBound gz (HF w.params) && gensDone (sF w os) && laidKept (eE w.params) (HF w.params))=true:=by rfl'
theorem k2 (w:g8) (os:gq):seen ((recsOf qv).map (·.name)) (ownsOf qv) [] {sF w os with gens:= #[]}=expectedOf qv:=by rfl'
theorem k3 (w:g8) (os:gq):(sF w os).heap.bltView=bltViewBooted:=by rfl'
theorem k4 (w:g8) (os:gq):((sF w os).heap.keysOk (looseW qv lz) ((recsOf qv).map (·.name)) ((litsOf qv).map (·.1)) ((clssOf qv (looseW qv lz)).map (·.name)) && (sF w os).heap.accountedOkI (cO gz.main.body) && (sF w os).heap.isNs mainGlobals && (sF w os).heap.isNs builtinsNs && tablesOk qv (sF w os).heap && Xq (sF w os) && (if true then (sF w os).gens.size==0 else !leftWithCleanup (sF w os).gens))=true:=by rfl'
theorem k5 (w:g8) (os:gq):tabsOk qv (sF w os)=true:=by rfl'
theorem k6 (w:g8) (os:gq):pinSeenD qv (drecsOf qv) (sF w os)=pinGoodD (drecsOf qv):=by rfl'
theorem k7 (w:g8) (os:gq):plainSeenE qv (looseW qv lz) (sF w os)=plainGoodE qv (looseW qv lz):=by rfl'
theorem k8 (w:g8) (os:gq):plainSeenD qv lz (sF w os)=plainGoodD qv lz:=by rfl'
theorem k9 (w:g8) (os:gq):wideSeen qv (sF w os)=wideGood qv:=by rfl'
theorem kW (w:g8) (os:gq):clsSeenW qv lz (sF w os)=clsGoodW qv lz:=by rfl'
def HK:Hook:=⟨Heap,fun s=>s.heap,fun w=>HF w.params,fun w h=>∀b o,(HF w.params).get? b=some o->h.get? b=some o,fun _ _ e b o q=>by rw[e];exact q,fun _ _ _ y k b o q=>k b o (y b o q)⟩
theorem looks (w:g8):(fun os=>((staticsOk (cO gz.main.body) (eE w.params) (HF w.params) && namesBound gz (HF w.params) && gensDone ⟨HF w.params,ez [],{},2503,os⟩ && laidKept (eE w.params) (HF w.params)),
    openSeen qv lz (cO gz.main.body) Xq true ⟨HF w.params,ez [],{},2503,os⟩,HK.obs ⟨HF w.params,ez [],{},2503,os⟩))=fun _=>(true,openGood qv lz,HK.val w):=by
 funext os
 exact ef (k1 w os) (ef (ef (k2 w os) (ef (k3 w os) (ef (k4 w os) (ef (k5 w os) (ef (k6 w os) (ef (k7 w os) (ef (k8 w os) (ef (k9 w os) (kW w os))))))))) rfl)
abbrev pw:=gz
abbrev O4:=aL
theorem l1:sreFenced pw.main=true:=by rfl'
theorem l2:((moduleNames pw.main.body).isEmpty||lookedIntoSs (moduleNames pw.main.body) pw.main.body)=true:=by rfl'
theorem l3:namesResolve pw=true:=by rfl'
theorem l4:(pw.boundNames.all fun n=> !worldNames.contains n)=true:=by rfl'
theorem kU:({strict:= !(cO pw.main.body).all cThrough.contains,foot:=none,bare:=(["vars","dir","locals"]:List Str).filter (readsOut pw pw.main.body)}:Look)={strict:=false,foot:=none,bare:= []}:=by rfl'
theorem l5:noRoadLSs {strict:= !(cO pw.main.body).all cThrough.contains,foot:=none,bare:=(["vars","dir","locals"]:List Str).filter (readsOut pw pw.main.body)} pw.main.body=true:=by
 rw[kU];rfl'
theorem l6:(namesMeet pw pw.main.body fun _ n=>attrL n)=true:=by rfl'
theorem l7:O4.row.partSaid=true:=by
 have e:looksOpen pw=true:=cN (cN (cN (cN (cN l1 l2) l3) l4) l5) l6
 unfold OpenRow.partSaid
 have e':looksOpen O4.row.prog=true:=e
 rw[e']
 rfl'
theorem l8:O4.row.wellSaid=true:=by
 unfold OpenRow.wellSaid;rw[l7];rfl'
theorem kT:noRoadLSs {strict:=true,foot:=some O4.bound',writes:=O4.writes,may:=O4.may} O4.footing=true:=by rfl'
theorem kR:(O4.bound'.all fun n=> !builtinNamed n||O4.about== [n]|| !O4.reads n)=true:=by rfl'
theorem kQ:(namesMeet O4.prog O4.above fun _ n=> !O4.own.contains n)=true:=by rfl'
theorem kP:(namesMeet O4.prog O4.footing fun sc n=>sc.kind== .module||sc.names.lookup n !=some .globalExplicit)=true:=by rfl'
theorem said:OpenLaw.wellSaid O4=true:=by
 unfold OpenLaw.wellSaid
 iterate 18 (refine cN ?_ ?_)
 all_goals first|with_reducible exact l8|with_reducible exact kT|with_reducible exact kR|with_reducible exact kQ|with_reducible exact kP|rfl'
section
variable {tb:String->Option dY}{p:gP}{w:g8}{B7:Nat}{ann:Option h_}{env:Env}{q:Pos}
theorem ZQ {n N a i:Nat}{s s':SharedT}{r:g7}{l:List Stmt}{c:Code}{pos p':Pos}(h:segRunT tb p w B7 ann 1 n s (piecesOf ((l.drop a).take i) env c pos [eF q])=some (.next,s',c,p'))
  (k:topRun tb p w B7 ann N s'.abs (restOf (l.drop (a+i)) env c p' [eF q])=some r):topRun tb p w B7 ann (n+N) s.abs (restOf (l.drop a) env c pos [eF q])=some r:=by
 have e:l.drop a=(l.drop a).take i++l.drop (a+i):=by rw[<-List.drop_drop,dz]
 rw[e]
 exact piece_app (segRun_of h) k
end
def M0:Nat:=392+(389+(401+(322+(716+(292+(537+(238+(227+(543+(284+(378+(27+(457+(360+(551+(302+(458+(10+(647+(10+(620+(275+(232+(862+(10+(483+(255+2)))))))))))))))))))))))))))
theorem runs (w:g8) (os:gq) (fin:topRun dO gz w 11 (some (.ref 6)) 2 (dZ (sT (ND w.params) 1626 2503 os)) (restOf (UT.drop 125) Sz cE {line:=1205,col:=0,endLine:=1233,endCol:=77} [eF pz])=some (dZ (sT (ND w.params) 1626 2503 os))):
  topRun dO gz w 11 (some (.ref 6)) M0 (dZ (sT (T0 w.params) 15 187 os)) (restOf (UT.drop 0) Sz cE pz [eF pz])=some (dZ (sT (ND w.params) 1626 2503 os)):=by
 unfold M0
 refine ZQ (q0 w _ _ os) ?_
 refine ZQ (q1 w _ _ os) ?_
 refine ZQ (q2 w _ _ os) ?_
 refine ZQ (q3 w _ _ os) ?_
 refine ZQ (q4 w _ _ os) ?_
 refine ZQ (q5 w _ _ os) ?_
 refine ZQ (q6 w _ _ os) ?_
 refine ZQ (q7 w _ _ os) ?_
 refine ZQ (q8 w _ _ os) ?_
 refine ZQ (q9 w _ _ os) ?_
 refine ZQ (lP w _ _ os) ?_
 refine ZQ (lN w _ _ os) ?_
 refine ZQ (lM w _ _ os) ?_
 refine ZQ (lI w _ _ os) ?_
 refine ZQ (lK w _ _ os) ?_
 refine ZQ (lG w _ _ os) ?_
 refine ZQ (lJ w _ _ os) ?_
 refine ZQ (lF w _ _ os) ?_
 refine ZQ (lH w _ _ os) ?_
 refine ZQ (lE w _ _ os) ?_
 refine ZQ (lD w _ _ os) ?_
 refine ZQ (lC w _ _ os) ?_
 refine ZQ (ly w _ _ os) ?_
 refine ZQ (lu w _ _ os) ?_
 refine ZQ (k_ w _ _ os) ?_
 refine ZQ (kZ w _ _ os) ?_
 refine ZQ (kY w _ _ os) ?_
 refine ZQ (kX w _ _ os) ?_
 exact fin
abbrev nU (w:g8) (os:gq):SharedT:=sT (ND w.params) 1626 2503 os
theorem rQ (w:g8) (os:gq):topRun dO gz w 11 (some (.ref 6)) (12+(1+M0)) ⟨eE w.params,ez [],boot_drawn,boot_toks,os⟩ (topStub gz)=some (nU w os).abs:=by
 refine go_top (pre w os) (piece_block (block w os) ?_)
 have h:=runs w os (fin w os)
 have e:UT.drop 0=bd:=(List.drop_zero (l:=UT)).trans yQ.symm
 rw[e] at h
 exact h
theorem yN (w:g8) (os:gq):(nU w os).abs=⟨HF w.params,ez [],{},2503,os⟩:=by rfl'
theorem rP (w:g8) (os:gq):topRun dO gz w 11 (some (.ref 6)) (12+(1+M0)) ⟨eE w.params,ez [],boot_drawn,boot_toks,os⟩ (topStub gz)=some ⟨HF w.params,ez [],{},2503,os⟩:=by
 rw[<-yN];exact rQ w os
theorem rO:gK (12+(1+M0)) 20000=true:=by decide
theorem left:LeftO gz qv lz Xq HK.obs HK.val 20000:=
 LeftO.of_pieces (boot_open B8 (by decide) FI) size rP rO looks
abbrev rr:OpenRow:=O4.row
theorem Ml:(defOf qv "law").isSome=true:=by rfl'
def XQ:DefRec×List (Str×Expr):=(defOf qv "law").get Ml
theorem hdef:defOf qv "law" =some (XQ.1,XQ.2):=(Option.some_get Ml).symm
theorem FG:pw.theDef "law" =some (XQ.1.params,XQ.1.body,XQ.1.scope):=by rfl'
theorem kO:kwWritten? XQ.1.params.kwonlyargs XQ.1.params.kw_defaults=some XQ.2:=by rfl'
theorem kN:(chainsOk qv && opensWell pw && (frees rr.toRowW && rr.within.isEmpty))=true:=by rfl'
theorem yM:pw.bare:=⟨rfl,rfl,rfl,rfl,rfl,by rfl'⟩
theorem kM:rr.toRowW.promised:=⟨[.list [.int 3]],by decide+kernel,by decide+kernel⟩
theorem holds_of (call:WalkO qv lz (XL qv []) HK.says rr.toRowW XQ.1 XQ.2 fun f vs=>PySem.call f vs):aL.Holds:=
 ⟨said,holds_open (r:=rr) (q:=qv) (loose:=lz) (Xt:=Xq) (XP:=XL qv []) (Yf:=HK.obs) (Ya:=HK.val) (YP:=HK.says) (N:=20000) left HK.of HK.keeps (fun s e=>xl_of s (g6.mp e).1) XL.keeps hdef FG kO (fun s e=>recFacts_of (g6.mp e).2) (by rfl') l8 kN yM kM call⟩
end Hd
namespace Mine
theorem Mk {e x:Int}{c:Nat}(h:c+1=(e - x).toNat):(e - (x+1)).toNat=c:=by
 rw[<-Int.sub_sub,Int.pred_toNat,<-h];rfl
theorem Mj {e x:Int}{c:Nat}(h:c+1=(x - e).toNat):(x - 1 - e).toNat=c:=by
 rw[Int.sub_sub,Int.add_comm,<-Int.sub_sub,Int.pred_toNat,<-h];rfl
theorem yL {e x:Int}{c:Nat}(h:c+1=(e - x).toNat):x<e:=by omega
theorem QR {q s hi:Int}{m:Nat}(g:q<=s) (h:s<q+((hi - m+1 - q).toNat:Int)):s+m<=hi:=by
 cases Int.le_total 0 (hi - m+1 - q) with
 |inl z=>rw[cM z] at h;omega
 |inr z=>rw[aK z] at h;exact absurd (cj q▸h) (fc.mpr g)
theorem B6 {q s hi:Int}{m:Nat}(h:q+((hi - m+1 - q).toNat:Int)<=s):hi<s+m:=by
 have z:=gf (Int.add_le_add_left (Int.self_le_toNat (hi - m+1 - q)) q) h
 clear h
 omega
theorem B5 {a x b:Int}(h1:a<=x) (h2:x<=b):min (max x a) b=x:=by
 rw[Int.max_eq_left h1,bG h2]
theorem Dc {p bz zv:Int}{n:Nat}(h1:¬p<bz) (h2:¬zv<=p) (hb:1<=bz) (hz:zv<=n+1):0<=p - 1/\(p - 1).toNat<n:=by
 have h0:0<=p - 1:=Int.sub_nonneg_of_le (gf hb (fc.mp h1))
 exact⟨h0,(Int.toNat_lt h0).mpr (Int.sub_right_lt_of_lt_add (Int.lt_of_lt_of_le (Int.not_le.mp h2) hz))⟩
theorem B4 {e x:Int}{c:Nat}(he:0<=e) (h:c+1=(x - e).toNat):0<=x - 1:=Int.le_sub_one_of_lt (Int.lt_of_le_of_lt he (yL h))
theorem yK {T T':Int}{c:Nat}(h:T+4*((c+1:Nat):Int)<=50000) (g:T'<=T+4):T'+4*(c:Int)<=50000:=by omega
theorem VY {i:Int}{n:Nat}(h: -2000<=i/\i<=2000) (l:2000<=n):i.natAbs<=n:=by omega
theorem yJ {a s:Int}{k:Nat}(h:s<=a - 1/\a - 1 - k<s):s<=a/\a - ((k+1:Nat):Int)<s:=by omega
theorem yI {a s:Int}{k:Nat}(h:a+1<=s/\s<a+1+k):a<=s/\s<a+((k+1:Nat):Int):=by omega
theorem JE (m n:Nat):min (m:Int) n=((min m n:Nat):Int):=by
 cases Nat.le_total m n with
 |inl h=>rw[cg h,bG (b_.mpr h)]
 |inr h=>rw[Nat.min_eq_right h,Int.min_eq_right (b_.mpr h)]
theorem JD (m n:Nat):max (m:Int) n=((max m n:Nat):Int):=by
 cases Nat.le_total m n with
 |inl h=>rw[Nat.max_eq_right h,bF (b_.mpr h)]
 |inr h=>rw[Nat.max_eq_left h,Int.max_eq_left (b_.mpr h)]
def W {α:Type}(prog:gP) (w:g8) (A:gY) (t:Sem α) (Q:α->Heap->Prop) (X:h_->Heap->Prop) (h:Heap):Prop:=
 ∀(s:g7) (Q':α->g7->Prop) (E:h_->g7->Prop),s.heap=h->
  (∀a h' tk,Q a h'->Q' a {s with heap:=h',toks:=tk})->(∀e h' tk,X e h'->E e {s with heap:=h',toks:=tk})->
  gW (gO prog w) A t Q' E s
structure Zs (hS:Heap) (B:Addr->Option Obj) (L:Addr) (m:Str->Option h_) (V:Addr->Option Obj) (h:Heap):Prop where
 st:∀a o,hS.get? a=some o->B a=some o
 keep:∀a o,B a=some o->h.get? a=some o
 YW:∀a o,V a=some o->h.get? a=some o
 loc:h.Ns L m
 vb:∀a o,V a=some o->B a=none
 vl:V L=none
 bl:B L=none
def Ye {R:Type}(k:Nat) (x:Expr) (d:R) (f:x.ctorIdx=k->R):R:=if h:x.ctorIdx=k then f h else d
def XO {R:Type}(k:Nat) (x:Stmt) (d:R) (f:x.ctorIdx=k->R):R:=if h:x.ctorIdx=k then f h else d
theorem US {R:Type}{k:Nat}{x:Expr}{f:x.ctorIdx=k->Option R}{y:R}(h:Ye k x none f=some y):∃q,f q=some y:=by
 unfold Ye at h
 by_cases q:x.ctorIdx=k
 ·rw[dif_pos q] at h;exact⟨q,h⟩
 ·rw[dif_neg q] at h;cases h
theorem FE {R:Type}{k:Nat}{x:Expr}{f:x.ctorIdx=k->Option R}(h:Ye k x none f=none) (s:∀q,f q≠none):gZ x.ctorIdx k=false:=by
 cases e:gZ x.ctorIdx k with
 |false=>rfl
 |true=>
  have q:=e_ e
  unfold Ye at h
  rw[dif_pos q] at h
  exact absurd h (s q)
def upd {α:Type} [DecidableEq α] {β:Type}(f:α->β) (a:α) (b:β):α->β:=fun x=>if x=a then b else f x
theorem Z6 {α β:Type} [DecidableEq α] (f:α->β) (a:α) (b:β):upd f a b a=b:=by simp[upd]
theorem Z2 {α β:Type} [DecidableEq α] {f:α->β}{a x:α}{b:β}(h:x≠a):upd f a b x=f x:=by simp[upd,h]
theorem Mi {V:Addr->Option Obj}{a x:Addr}{o oa ox:Obj}(hx:V x=some ox) (ha:V a=some oa) (hne:ox≠oa):upd V a (some o) x=some ox:=by
 rw[Z2];exact hx
 rintro rfl;rw[hx] at ha;exact hne (gj ha)
section
variable {hS h h':Heap}{B:Addr->Option Obj}{L:Addr}{m m':Str->Option h_}{V V':Addr->Option Obj}
theorem Zs.Z8 (S:Zs hS B L m V h):∀a o,hS.get? a=some o->h.get? a=some o:=fun a o e=>S.keep a o (S.st a o e)
theorem Zs.lt (S:Zs hS B L m V h) {a:Addr}{o:Obj}(e:V a=some o):a<h.objs.size:=gJ (S.YW a o e)
theorem Zs.push (S:Zs hS B L m V h) {o:Obj}(hf:o.isFreed=false):V h.objs.size=none/\Zs hS B L m (upd V h.objs.size (some o)) (h.push o):=by
 have hn:V h.objs.size=none:=by
  cases e:V h.objs.size with
  |none=>rfl
  |some o=>exact absurd (S.lt e) (eT _)
 have hb:B h.objs.size=none:=by
  cases e:B h.objs.size with
  |none=>rfl
  |some o=>exact absurd (gJ (S.keep _ _ e)) (eT _)
 have hL:L≠h.objs.size:=f_ S.loc.lt
 refine⟨hn,S.st,fun a o' e=>gD _ (S.keep a o' e),fun a o' e=> ?_,S.loc.push _,fun a o' e=> ?_,?_,S.bl⟩
 ·by_cases ha:a=h.objs.size
  ·subst ha;rw[Z6] at e;cases e;exact fy _ hf
  ·rw[Z2 ha] at e;exact gD _ (S.YW a o' e)
 ·by_cases ha:a=h.objs.size
  ·subst ha;exact hb
  ·rw[Z2 ha] at e;exact S.vb a o' e
 ·rw[Z2 hL];exact S.vl
theorem Zs.change (S:Zs hS B L m V h) {d:Addr}{od od':Obj}(hd:V d=some od) (hs:dw d h h') (hd':h'.get? d=some od'):Zs hS B L m (upd V d (some od')) h':=by
 have hL:L≠d:=by rintro rfl;rw[S.vl] at hd;cases hd
 refine⟨S.st,fun a o e=> ?_,fun a o e=> ?_,S.loc.sameBut hs hL,fun a o e=> ?_,?_,S.bl⟩
 ·have:a≠d:=by rintro rfl;rw[S.vb _ _ hd] at e;cases e
  exact(hs.2 a this).trans (S.keep a o e)
 ·by_cases ha:a=d
  ·subst ha;rw[Z6] at e;cases e;exact hd'
  ·rw[Z2 ha] at e;exact(hs.2 a ha).trans (S.YW a o e)
 ·by_cases ha:a=d
  ·subst ha;exact S.vb _ _ hd
  ·rw[Z2 ha] at e;exact S.vb a o e
 ·rw[Z2 hL];exact S.vl
theorem Zs.update (S:Zs hS B L m V h) {d:Addr}{od:Obj}{f:Obj->Obj}(hd:V d=some od) (hf:(f od).isFreed=false):Zs hS B L m (upd V d (some (f od))) (h.update d f):=
 S.change hd (aJ ..) (dm f (S.YW _ _ hd) hf)
theorem Zs.store (S:Zs hS B L m V h) (hn:h'.Ns L m') (hs:dw L h h'):Zs hS B L m' V h':=by
 have ne:∀{a:Addr}{o:Obj},B a=some o->a≠L:=fun{a o} e=>by rintro rfl;rw[S.bl] at e;cases e
 have nv:∀{a:Addr}{o:Obj},V a=some o->a≠L:=fun{a o} e=>by rintro rfl;rw[S.vl] at e;cases e
 exact⟨S.st,fun a o e=>(hs.2 a (ne e)).trans (S.keep a o e),fun a o e=>(hs.2 a (nv e)).trans (S.YW a o e),hn,S.vb,S.vl,S.bl⟩
theorem Zs.keeps (S:Zs hS B L m V h) (hk:∀a o,h.get? a=some o->h'.get? a=some o):Zs hS B L m V h':=
 ⟨S.st,fun a o e=>hk _ _ (S.keep a o e),fun a o e=>hk _ _ (S.YW a o e),S.loc.keeps hk,S.vb,S.vl,S.bl⟩
end
section
variable {prog:gP}{w:g8}{A:gY}{α β:Type}{X:h_->Heap->Prop}{h:Heap}
theorem W.pure {a:α}{Q:α->Heap->Prop}(hq:Q a h):W prog w A (Pure.pure a) Q X h:=fun s _ _ hs k _=>by
 subst hs
 exact gU (k a s.heap s.toks hq)
theorem W.go {t:Sem α}{Q:α->Heap->Prop}{h':Heap}{tk:Nat}{s:g7}{Q':α->g7->Prop}{E:h_->g7->Prop}(x:W prog w A t Q X h')
  (k:∀a h' tk,Q a h'->Q' a {s with heap:=h',toks:=tk}) (kx:∀e h' tk,X e h'->E e {s with heap:=h',toks:=tk}):
  gW (gO prog w) A t Q' E {s with heap:=h',toks:=tk}:=x _ Q' E rfl (fun a h' tk=>k a h' tk) fun e h' tk=>kx e h' tk
theorem W.bind {t:Sem α}{f:α->Sem β}{Q:β->Heap->Prop}(x:W prog w A t (fun a h'=>W prog w A (f a) Q X h') X h):W prog w A (t>>=f) Q X h:=fun s Q' E hs k kx=>
 g_ (x s _ E hs (fun _ _ _ y=>y.go k kx) kx)
theorem W.mono {t:Sem α}{Q Q':α->Heap->Prop}{X':h_->Heap->Prop}(x:W prog w A t Q X h) (hq:∀a h',Q a h'->Q' a h') (hx:∀e h',X e h'->X' e h'):W prog w A t Q' X' h:=fun s R E hs k kx=>
 x s R E hs (fun a h' tk y=>k a h' tk (hq a h' y)) fun e h' tk y=>kx e h' tk (hx e h' y)
theorem W.holding {vs:List h_}{t:Sem α}{Q:α->Heap->Prop}(x:W prog w A t Q X h):W prog w A (PySem.holding vs t) Q X h:=fun s Q' E hs k kx=>fu (x s Q' E hs k kx)
theorem W.standAt {p:Pos}{Q:Unit->Heap->Prop}(hq:Q () h):W prog w A (PySem.standAt p) Q X h:=fun s _ _ hs k _=>by
 subst hs;exact cL (k () s.heap s.toks hq)
theorem W.eq {t t':Sem α}{Q:α->Heap->Prop}(e:t=t') (x:W prog w A t' Q X h):W prog w A t Q X h:=e▸x
end
section
variable {prog:gP}{w:g8}{A:gY}{X:h_->Heap->Prop}{h:Heap}{env:Env}
theorem yH {Q:Flow->Heap->Prop}(hq:Q .next h):W prog w A (fY [] env) Q X h:=W.pure (a:=Flow.next) hq
theorem Nu {st:Stmt}{rest:List Stmt}{Q:Flow->Heap->Prop}
  (x:W prog w A (exec st env) (fun f h'=>match f with| .next=>W prog w A (fY rest env) Q X h'|f=>Q f h') X h):W prog w A (fY (st::rest) env) Q X h:=fun s Q' E hs k kx=>
 wpAny_execs_cons (x s _ E hs (fun f h' tk y=>by cases f<;>first|exact W.go y k kx|exact k _ _ _ y) kx)
theorem B3 {e:Expr}{pos:Pos}{Q:Flow->Heap->Prop}(x:W prog w A (eval e env) (fun _=>Q .next) X h)
  (hi:interactive env=false:=by rfl') (hs:dN e none pos.line env=pure false:=by rfl'):W prog w A (exec (.Expr e pos) env) Q X h:=fun s Q' E hs' k kx=>
 wpAny_Expr_any (x s _ E hs' (fun _ h' tk y=>k _ h' tk y) kx) hi hs
set_option tactic.hygienic true in
theorem B0 {pos:Pos}{Q:Flow->Heap->Prop}(hq:Q .next h):W prog w A (exec (.Pass pos) env) Q X h:=fun s Q' E hs k kx=>by subst hs;exact wpAny_Pass (k _ s.heap s.toks hq)
theorem BZ {pos:Pos}{Q:Flow->Heap->Prop}(hq:Q .cont h):W prog w A (exec (.Continue pos) env) Q X h:=W.bind (W.standAt (W.pure hq))
theorem C_ {e:Expr}{pos:Pos}{Q:Flow->Heap->Prop}(x:W prog w A (eval e env) (fun v=>Q (.ret v)) X h):W prog w A (exec (.Return (some e) pos) env) Q X h:=fun s Q' E hs k kx=>
 wpAny_Return_some (x s _ E hs (fun v h' tk y=>k _ h' tk y) kx)
theorem BY {pos:Pos}{Q:Flow->Heap->Prop}(hq:Q (.ret .none) h):W prog w A (exec (.Return none pos) env) Q X h:=fun s Q' E hs k kx=>by
 subst hs;exact wpAny_Return_none (k _ s.heap s.toks hq)
theorem rN {test:Expr}{body orelse:List Stmt}{pos:Pos}{Q:Flow->Heap->Prop}
  (x:W prog w A (gc test env (eval test env)) (fun b h'=>(b=true->W prog w A (fY body env) Q X h')/\(b=false->W prog w A (fY orelse env) Q X h')) X h):
  W prog w A (exec (.If test body orelse pos) env) Q X h:=fun s Q' E hs k kx=>
 wpAny_If (x s _ E hs (fun b h' tk y=>by cases b;exact W.go (y.2 rfl) k kx;exact W.go (y.1 rfl) k kx) kx)
theorem La {l r:Expr}{op:fW}{pos:Pos}{whole:Sem h_}{Q:Bool->Heap->Prop}
  (x:W prog w A (eval l env) (fun a ZU=>W prog w A (eval r env) (fun b ZO=>W prog w A (fq op a b) (fun c X8=>W prog w A (truthy c) Q X X8) X ZO) X ZU) X h)
  (hm:behindInMarks op r=false:=by rfl'):W prog w A (gc (.Compare l [op] [r] pos) env whole) Q X h:=fun s Q' E hs k kx=>
 wpAny_isTrue_Compare1 (x s _ E hs (fun a ZU tk y=>y.go (fun b ZO tk y=>y.go (fun c X8 tk y=>y.go k kx) kx) kx) kx) hm
theorem w_not {x:Expr}{pos:Pos}{whole:Sem h_}{Q:Bool->Heap->Prop}(y:W prog w A (gc x env (eval x env)) (fun c h'=>Q (!c) h') X h):
  W prog w A (gc (.UnaryOp .Not x pos) env whole) Q X h:=fun s Q' E hs k kx=>isTrue_not (y s _ E hs (fun c h' tk z=>k _ h' tk z) kx)
theorem BX {pos:Pos}{whole:Sem h_}{Q:Bool->Heap->Prop}(hq:Q true h):W prog w A (gc (.BoolOp .And [] pos) env whole) Q X h:=fun s Q' E hs k kx=>by
 subst hs;exact isTrue_and_nil (k _ s.heap s.toks hq)
theorem yG {pos:Pos}{whole:Sem h_}{Q:Bool->Heap->Prop}(hq:Q false h):W prog w A (gc (.BoolOp .Or [] pos) env whole) Q X h:=fun s Q' E hs k kx=>by
 subst hs;exact isTrue_or_nil (k _ s.heap s.toks hq)
theorem w_and {x:Expr}{rest:List Expr}{pos:Pos}{whole:Sem h_}{Q:Bool->Heap->Prop}
  (y:W prog w A (gc x env (eval x env)) (fun c h'=>(c=true->W prog w A (gc (.BoolOp .And rest pos) env whole) Q X h')/\(c=false->Q false h')) X h):
  W prog w A (gc (.BoolOp .And (x::rest) pos) env whole) Q X h:=fun s Q' E hs k kx=>
 isTrue_and (y s _ E hs (fun c h' tk z=>by cases c;exact k _ _ _ (z.2 rfl);exact W.go (z.1 rfl) k kx) kx)
theorem w_or {x:Expr}{rest:List Expr}{pos:Pos}{whole:Sem h_}{Q:Bool->Heap->Prop}
  (y:W prog w A (gc x env (eval x env)) (fun c h'=>(c=true->Q true h')/\(c=false->W prog w A (gc (.BoolOp .Or rest pos) env whole) Q X h')) X h):
  W prog w A (gc (.BoolOp .Or (x::rest) pos) env whole) Q X h:=fun s Q' E hs k kx=>
 isTrue_or (y s _ E hs (fun c h' tk z=>by cases c;exact W.go (z.2 rfl) k kx;exact k _ _ _ (z.1 rfl)) kx)
theorem BW {e:Expr}{whole:Sem h_}{Q:Bool->Heap->Prop}(y:W prog w A whole (fun v h'=>W prog w A (truthy v) Q X h') X h)
  (he:gc e env whole=(do let v<-whole;standAt e.pos;holding [v] (truthy v)):=by rfl'):W prog w A (gc e env whole) Q X h:=fun s Q' E hs k kx=>
 isTrue_plain (y s _ E hs (fun v h' tk z=>z.go k kx) kx) he
theorem JC {l Zx Yx:Expr}{QO Sw:fW}{pos:Pos}{whole:Sem h_}{Q:Bool->Heap->Prop}
  (x:W prog w A (eval l env) (fun a ZU=>W prog w A (eval Zx env) (fun b ZO=>W prog w A (fq QO a b) (fun c X8=>W prog w A (truthy c)
   (fun t Vn=>(t=true->W prog w A (eval Yx env) (fun d XE=>W prog w A (fq Sw b d) (fun c O3=>W prog w A (truthy c) Q X O3) X XE) X Vn)/\(t=false->Q false Vn)) X X8) X ZO) X ZU) X h)
  (hm:lastMarks [QO,Sw] [Zx,Yx]=false:=by rfl'):W prog w A (gc (.Compare l [QO,Sw] [Zx,Yx] pos) env whole) Q X h:=fun s Q' E hs k kx=>by
 refine isTrue_chain (x s _ E hs (fun a ZU tk y=> ?_) kx) hm
 refine test_link (y.go (fun b ZO tk y=>y.go (fun c X8 tk y=>y.go (fun t Vn tk y=> ?_) kx) kx) kx)
 cases t with
 |false=>exact k _ _ _ (y.2 rfl)
 |true=>exact test_last ((y.1 rfl).go (fun d XE tk y=>y.go (fun c O3 tk y=>y.go k kx) kx) kx)
theorem yF {i:Int}{k:Nat}{pos:Pos}{Q:h_->Heap->Prop}(hq:∀t,Q (.int i t) h):W prog w A (eval (.Constant (.int i) k pos) env) Q X h:=fun s Q' E hs g kx=>by
 subst hs;exact wpAny_Constant_int (g _ s.heap _ (hq _))
theorem yE {x:Str}{k:Nat}{pos:Pos}{Q:h_->Heap->Prop}(hq:∀t,Q (.str x t) h):W prog w A (eval (.Constant (.str x) k pos) env) Q X h:=fun s Q' E hs g kx=>by
 subst hs;exact Constant_str (g _ s.heap _ (hq _))
theorem BV {k:Nat}{pos:Pos}{Q:h_->Heap->Prop}(hq:Q .none h):W prog w A (eval (.Constant .none k pos) env) Q X h:=W.eq (t':=pure fO) rfl (W.pure hq)
theorem BU {b:Bool}{k:Nat}{pos:Pos}{Q:h_->Heap->Prop}(hq:Q (.bool b) h):W prog w A (eval (.Constant (.bool b) k pos) env) Q X h:=W.eq (t':=pure (h_.bool b)) rfl (W.pure hq)
theorem FD {l r:Expr}{op:eS}{pos:Pos}{Q:h_->Heap->Prop}
  (x:W prog w A (eval l env) (fun a ZU=>W prog w A (eval r env) (fun b ZO=>W prog w A (binaryOp op a b) Q X ZO) X ZU) X h):W prog w A (eval (.BinOp l op r pos) env) Q X h:=fun s Q' E hs k kx=>
 wpAny_BinOp (x s _ E hs (fun a ZU tk y=>y.go (fun b ZO tk y=>y.go k kx) kx) kx)
theorem yD {l r:Expr}{op:fW}{pos:Pos}{Q:h_->Heap->Prop}
  (x:W prog w A (eval l env) (fun a ZU=>W prog w A (eval r env) (fun b ZO=>W prog w A (fq op a b) Q X ZO) X ZU) X h) (hm:behindInMarks op r=false:=by rfl'):
  W prog w A (eval (.Compare l [op] [r] pos) env) Q X h:=fun s Q' E hs k kx=>
 wpAny_Compare1 (x s _ E hs (fun a ZU tk y=>y.go (fun b ZO tk y=>y.go k kx) kx) kx) hm
theorem FA {test body orelse:Expr}{pos:Pos}{Q:h_->Heap->Prop}
  (y:W prog w A (gc test env (eval test env)) (fun c h'=>(c=true->W prog w A (eval body env) Q X h')/\(c=false->W prog w A (eval orelse env) Q X h')) X h):
  W prog w A (eval (.IfExp test body orelse pos) env) Q X h:=
 W.eq (arm_eval_IfExp ..) (W.bind (y.mono (fun c h' z=>by cases c;exact z.2 rfl;exact z.1 rfl) fun _ _ z=>z))
theorem JB {value:Expr}{attr:Str}{pos:Pos}{Q:h_->Heap->Prop}(x:W prog w A (eval value env) (fun o ZU=>W prog w A (getAttr o attr true) Q X ZU) X h)
  (he:eval (.Attribute value attr pos) env=(do let o<-eval value env;standAt pos.atName;let r<-holding [o] (getAttr o attr true);letTemporaryGo value o r;pure r):=by rfl'):
  W prog w A (eval (.Attribute value attr pos) env) Q X h:=fun s Q' E hs k kx=>Attribute_any_ (x s _ E hs (fun o ZU tk y=>y.go k kx) kx) he
theorem w_sub {value slice:Expr}{pos:Pos}{Q:h_->Heap->Prop}
  (x:W prog w A (eval value env) (fun o ZU=>W prog w A (eval slice env) (fun i ZO=>W prog w A (eN value slice o i) Q X ZO) X ZU) X h):W prog w A (eval (.Subscript value slice pos) env) Q X h:=fun s Q' E hs k kx=>
 Subscript_ (x s _ E hs (fun o ZU tk y=>y.go (fun i ZO tk y=>y.go k kx) kx) kx)
theorem Mh {x:Str}{pos:Pos}{v:h_}{Q:h_->Heap->Prop}{hS:Heap}{B V:Addr->Option Obj}{L:Addr}{m:Str->Option h_}(S:Zs hS B L m V h) (hv:m x=some v) (hq:Q v h)
  (hk:env.scope.kind= .function:=by rfl') (hL:env.locals=L:=by rfl') (hl:env.kindOf x=some .local:=by rfl') (hd:(x==("__debug__" :Str))=false:=by decide+kernel):
  W prog w A (eval (.Name x pos) env) Q X h:=fun s Q' E hs k kx=>by
 subst hs;subst hL
 exact wpAny_Name (wpAny_loadName_local hk hl S.loc hv (k _ s.heap s.toks hq)) hd
end
def S4 (l:List (Str×h_)):Str->Option h_:=l.foldl (fun m x=>upd m x.1 (some x.2)) fun _=>none
theorem Sv (l:List (Str×h_)):(fun x=>l.reverse.lookup x)=S4 l:=by
 have key:∀(r:List (Str×h_)),(fun x=>r.lookup x)=r.foldr (fun x m=>upd m x.1 (some x.2)) fun _=>none:=by
  intro r
  induction r with
  |nil=>rfl
  |cons y r ih=>
   funext x
   rw[List.foldr_cons,<-ih,dD]
   unfold upd
   by_cases q:x=y.1
   ·simp[q]
   ·have:(x==y.1)=false:=by simpa using q
    rw[this,if_neg q]
 rw[key]
 unfold S4
 rw[List.foldr_reverse]
structure Su (K:Frag) (hS:Heap):Prop where
 k:K.In hS
 t:∃(p:gP) (loose:List Str) (mg mb:Str->Option h_),TopRead p loose mg mb hS
section
variable {prog:gP}{w:g8}{A:gY}{X:h_->Heap->Prop}{h:Heap}{env:Env}{hS:Heap}{B V:Addr->Option Obj}{L:Addr}{m:Str->Option h_}{K:Frag}
theorem Su.nolimit (Z:Su K hS):hS.NoLimit:=let ⟨_,_,_,_,t⟩:=Z.t;t.nolimit
theorem Su.at (Z:Su K hS) (S:Zs hS B L m V h):K.In h:=Z.k.keeps S.Z8
theorem JA {x:Str}{pos:Pos}{v:h_}{Q:h_->Heap->Prop}(Z:Su K hS) (S:Zs hS B L m V h) (e:nsIn K mainGlobals x=some (some v)) (hq:Q v h)
  (hk:env.scope.kind= .function:=by rfl') (hl:env.kindOf x=some .globalImplicit:=by rfl') (hg:env.globals=mainGlobals:=by rfl') (hd:(x==("__debug__" :Str))=false:=by decide+kernel):
  W prog w A (eval (.Name x pos) env) Q X h:=fun s Q' E hs k kx=>by
 subst hs
 obtain ⟨p,loose,mg,mb,T⟩:=Z.t
 exact Name_function_global hk hl (loadGlobal_global (by rw[hg];exact T.g.keeps S.Z8) (mg_of Z.k T.g e) (k _ s.heap s.toks hq)) hd
theorem BS {x:Str}{pos:Pos}{v:h_}{Q:h_->Heap->Prop}(Z:Su K hS) (S:Zs hS B L m V h) (e:nsIn K mainGlobals x=some none) (hv:bootBuiltins x=some v) (hq:Q v h) (hn:x≠ "__name__" :=by decide+kernel)
  (hk:env.scope.kind= .function:=by rfl') (hl:env.kindOf x=some .globalImplicit:=by rfl') (hg:env.globals=mainGlobals:=by rfl') (hb:env.builtins=builtinsNs:=by rfl') (hd:(x==("__debug__" :Str))=false:=by decide+kernel):
  W prog w A (eval (.Name x pos) env) Q X h:=fun s Q' E hs k kx=>by
 subst hs
 obtain ⟨p,loose,mg,mb,T⟩:=Z.t
 exact Name_function_global hk hl (loadGlobal_builtin (by rw[hg];exact T.g.keeps S.Z8) (mg_none_of Z.k T.g e) (by rw[hb];exact T.b.keeps S.Z8) ((T.builtins x hn).trans hv) (k _ s.heap s.toks hq)) hd
theorem Fz {pos:Pos}{Q:List h_->Heap->Prop}(hq:Q [] h):W prog w A (spliced (gv pos (gF [] env))) Q X h:=fun s Q' E hs k kx=>by
 subst hs;exact args_nil (k _ s.heap s.toks hq)
theorem BR {e:Expr}{rest:List Expr}{pos:Pos}{Q:List h_->Heap->Prop}
  (x:W prog w A (eval e env) (fun v ZU=>W prog w A (spliced (gv pos (gF rest env))) (fun vs ZO=>Q (v::vs) ZO) X ZU) X h)
  (he:gF (e::rest) env=(false,eval e env)::gF rest env:=by rfl'):W prog w A (spliced (gv pos (gF (e::rest) env))) Q X h:=fun s Q' E hs k kx=>
 args_cons (x s _ E hs (fun v ZU tk y=>y.go (fun vs ZO tk z=>k _ ZO tk z) kx) kx) he
def Kept (hS:Heap) (f:h_):Prop:=∀(M:Model) (h:Heap),(∀a o,hS.get? a=some o->h.get? a=some o)->∃k,(k=Keeper.frame\/k=Keeper.machine\/k=Keeper.boundFrame)/\Looks M h (keeperOf f) k
theorem Kept.of_K (Z:Su K hS) {f:h_}(e:gw K f=true):Kept hS f:=fun M h k=>keeps_K e h (Z.k.keeps k)
theorem Kept.plain {f:h_}(e:∀a,f≠ .ref a):Kept hS f:=fun M h _=>⟨.machine,.inr (.inl rfl),Looks.of_pure (by
 unfold keeperOf
 cases f<;>first|rfl|exact absurd rfl (e _))⟩
theorem Kept.builtin {id:String}:Kept hS (.builtin id):= .plain (by intro a e;cases e)
theorem Kept.type {id:String}:Kept hS (.type id):= .plain (by intro a e;cases e)
theorem BQ {func:Expr}{args:List Expr}{pos:Pos}{Q:h_->Heap->Prop}
  (x:W prog w A (eval func env) (fun f ZU=>W prog w A (eZ pos f [] (gv pos (gF args env)) []) Q X ZU) X h)
  (he:eval (.Call func args [] pos) env=(do eZ pos (<-eval func env) [] (gv pos (gF args env)) (backToKw pos (keywordEach [] env))):=by rfl'):
  W prog w A (eval (.Call func args [] pos) env) Q X h:=fun s Q' E hs k kx=>Call_ (x s _ E hs (fun f ZU tk y=>y.go k kx) kx) he
theorem BP {o:Expr}{name:Str}{apos pos:Pos}{args:List Expr}{pl:Sem Bool}{Q:h_->Heap->Prop}
  (x:W prog w A (eval o env) (fun ov ZU=>W prog w A (getMethod ov name pl) (fun fx ZO=>W prog w A (eZ pos fx.1 fx.2 (gv pos (gF args env)) []) Q X ZO) X ZU) X h)
  (he:eval (.Call (.Attribute o name apos) args [] pos) env=(do
   let ov<-eval o env
   standAt apos.atName
   let (f,first)<-holding [ov] (getMethod ov name pl)
   eZ pos f first (gv pos (gF args env)) []):=by rfl'):
  W prog w A (eval (.Call (.Attribute o name apos) args [] pos) env) Q X h:=fun s Q' E hs k kx=>MethodCall_ (x s _ E hs (fun ov ZU tk y=>y.go (fun fx ZO tk z=>z.go k kx) kx) kx) he
def WC (prog:gP) (w:g8) (A:gY) (c:Code) (Q:h_->Heap->Prop) (X:h_->Heap->Prop) (h:Heap):Prop:=
 ∀(s:g7) (R:Result->g7->Prop),s.heap=h->(∀v h' tk,Q v h'->R (.ok (.ret v)) {s with heap:=h',toks:=tk})->(∀e h' tk,X e h'->R (.error e) {s with heap:=h',toks:=tk})->
  codeAny (gO prog w) A c R s
theorem WC.call {f:h_}{args:List h_}{Q:h_->Heap->Prop}(x:WC prog w A (.call f ⟨args,[]⟩) Q X h):W prog w A (PySem.call f args) Q X h:=fun s Q' E hs k kx=>
 wpAny_call (x s _ hs (fun v h' tk y=>k v h' tk y) kx)
theorem WC.mono {c:Code}{Q Q':h_->Heap->Prop}{X':h_->Heap->Prop}(x:WC prog w A c Q X h) (hq:∀a h',Q a h'->Q' a h') (hx:∀e h',X e h'->X' e h'):WC prog w A c Q' X' h:=fun s R hs k kx=>
 x s R hs (fun v h' tk y=>k v h' tk (hq v h' y)) fun e h' tk y=>kx e h' tk (hx e h' y)
end
def rest (h:Heap) (L:Addr) (ds:List Addr):List (Addr×Obj):=(eY h.objs.size).filterMap fun a=>if a=L\/a∈ds then none else (h.get? a).map fun o=>(a,o)
set_option tactic.hygienic true in
theorem VX {h:Heap}{L:Addr}{ds:List Addr}{p:Addr×Obj}:p∈rest h L ds↔h.get? p.1=some p.2/\p.1≠L/\p.1∉ds:=by
 unfold rest
 rw[b9]
 constructor
 ·rintro ⟨a,_,e⟩
  split at e
  ·cases e
  ·rename_i hn
   obtain ⟨o,ho,rfl⟩:=aI.mp e
   exact⟨ho,fun q=>hn (.inl q),fun q=>hn (.inr q)⟩
 ·rintro ⟨e,n1,n2⟩
  refine⟨p.1,List.mem_range.mpr (gJ e),?_⟩
  rw[if_neg (by rintro (q|q);exact n1 q;exact n2 q),e];rfl
theorem WL (h:Heap) (L:Addr) (ds:List Addr):News {} L h (rest h L ds):=fun p hp=>by
 obtain ⟨a,b,_⟩:=VX.mp hp
 exact⟨a,b,rfl⟩
theorem Mg {h:Heap}{L d:Addr}{ds:List Addr}(hd:d∈ds):∀p∈rest h L ds,p.1≠d:=fun p hp e=>(VX.mp hp).2.2 (e▸hd)
section
variable {hS h h':Heap}{B V:Addr->Option Obj}{L:Addr}{m m':Str->Option h_}
theorem Zs.fr (S:Zs hS B L m V h):Fr {} L h m:=⟨S.loc,(fun b o e=>by cases (show (none:Option Obj)=some o from e)),Nat.zero_le _⟩
theorem Zs.ledger (S:Zs hS B L m V h) {d:Addr}{od:Obj}(hd:V d=some od):News {} L h ((d,od)::rest h L [d]):=fun p hp=>by
 rcases gy.mp hp with rfl|hp
 ·exact⟨S.YW _ _ hd,(by rintro rfl;rw[S.vl] at hd;cases hd),rfl⟩
 ·exact WL h L [d] p hp
theorem Zs.QN (S:Zs hS B L m V h) {d:Addr}{od od':Obj}(hd:V d=some od) (F:Fr {} L h' m') (N:News {} L h' ((d,od')::rest h L [d])):Zs hS B L m' (upd V d (some od')) h':=by
 have k:∀a o,h.get? a=some o->a≠L->a≠d->h'.get? a=some o:=fun a o e n1 n2=>(N (a,o) (.tail _ (VX.mpr ⟨e,n1,by simpa using n2⟩))).1
 have hL:L≠d:=by rintro rfl;rw[S.vl] at hd;cases hd
 refine⟨S.st,fun a o e=> ?_,fun a o e=> ?_,F.ns,fun a o e=> ?_,?_,S.bl⟩
 ·exact k a o (S.keep a o e) (by rintro rfl;rw[S.bl] at e;cases e) (by rintro rfl;rw[S.vb _ _ hd] at e;cases e)
 ·by_cases ha:a=d
  ·subst ha;rw[Z6] at e;cases e;exact(N _ (.head _)).1
  ·rw[Z2 ha] at e
   exact k a o (S.YW a o e) (by rintro rfl;rw[S.vl] at e;cases e) ha
 ·by_cases ha:a=d
  ·subst ha;exact S.vb _ _ hd
  ·rw[Z2 ha] at e;exact S.vb a o e
 ·rw[Z2 hL];exact S.vl
end
structure Mf (k:Nat) (es:List gh) (f:Str->Option h_):Prop where
 get:∀name,getL name es=some (f name)
 keys:∀e∈es,∃x t,e.key= .str x t
 len:es.length<=k
theorem Mf.nil:Mf 0 [] fun _=>none:=⟨fun _=>rfl,fun _ h=>(nomatch h),gi _⟩
theorem noRef {es:List gh}(h:∀e∈es,∃x t,e.key= .str x t):es.any (·.refKey)=false:=by
 rw[List.any_eq_false]
 intro e he
 obtain ⟨x,t,q⟩:=h e he
 unfold gh.refKey
 rw[q];intro z;cases z
theorem WK {name:Str}{e:gh}{es:List gh}(h:∀e'∈e::es,∃x t,e'.key= .str x t):getL name (e::es)=if e.key.isStr name then some (some e.val) else getL name es:=by
 have a:=noRef h
 have b:=noRef fun e' he'=>h e' (.tail _ he')
 unfold getL
 rw[List.find?_cons,a,b]
 cases e.key.isStr name<;>rfl
theorem Uv {name:Str}{hsh:Int}{t:Tok}{v:h_}:∀{es:List gh},(∀e∈es,∃x t,e.key= .str x t)->∀e∈putL name hsh (.str name t) v es,∃x t,e.key= .str x t
 | [],_,e,he=>by
  unfold putL at he
  obtain rfl:=fK.mp he
  exact⟨_,_,rfl⟩
 |d::r,h,e,he=>by
  unfold putL at he
  split at he
  ·rcases gy.mp he with rfl|he
   ·exact h d (.head _)
   ·exact h e (.tail _ he)
  ·rcases gy.mp he with rfl|he
   ·exact h _ (.head _)
   ·exact Uv (fun e he=>h e (.tail _ he)) e he
set_option tactic.hygienic true in
theorem QM {name y:Str}{hsh:Int}{t:Tok}{v:h_}:∀{es:List gh},(∀e∈es,∃x t,e.key= .str x t)->getL y (putL name hsh (.str name t) v es)=if y=name then some (some v) else getL y es
 | [],h=>by
  unfold putL
  rw[WK (by intro e he;obtain rfl:=fK.mp he;exact⟨_,_,rfl⟩)]
  show (if (name==y)=true then _ else _)=_
  by_cases q:y=name
  ·subst q;simp
  ·rw[if_neg q,if_neg (by simpa using fun z=>q z.symm)]
 |d::r,h=>by
  obtain ⟨x,u,hx⟩:=h d (.head _)
  unfold putL
  split
  ·rename_i q
   have ex:x=name:=by rw[hx] at q;simpa [h_.isStr] using q
   rw[WK (by intro e he;rcases gy.mp he with rfl|he;exact⟨_,_,hx⟩;exact h e (.tail _ he)),WK h]
   show (if d.key.isStr y then _ else _)=_
   rw[hx,ex]
   show (if (name==y)=true then _ else _)=if y=name then _ else (if (name==y)=true then _ else _)
   by_cases q:y=name
   ·subst q;simp
   ·have:¬(name==y)=true:=by simpa using fun z=>q z.symm
    rw[if_neg q,if_neg this,if_neg this]
  ·rename_i q
   have nx:x≠name:=by rintro rfl;rw[hx] at q;simp[h_.isStr] at q
   have hr:∀e∈r,∃x t,e.key= .str x t:=fun e he=>h e (.tail _ he)
   rw[WK (by intro e he;rcases gy.mp he with rfl|he;exact⟨_,_,hx⟩;exact Uv hr e he),WK h,QM hr,hx]
   show (if (x==y)=true then _ else _)=if y=name then _ else (if (x==y)=true then _ else _)
   by_cases q:y=name
   ·subst q
    have:¬(x==y)=true:=by simpa using nx
    rw[if_neg this,if_pos rfl,if_pos rfl]
   ·rw[if_neg q,if_neg q]
theorem Ss {name:Str}{hsh:Int}{key v:h_}:∀es:List gh,(putL name hsh key v es).length<=es.length+1
 | []=>gi _
 |d::r=>by
  unfold putL
  split
  ·simp
  ·simp only[fR];have:=Ss (name:=name) (hsh:=hsh) (key:=key) (v:=v) r;omega
set_option tactic.hygienic true in
theorem QL {name:Str}{hsh:Int}{key v:h_}:∀{es:List gh},es.any (·.key.isStr name)=true->(putL name hsh key v es).length=es.length
 | [],h=>by cases h
 |d::r,h=>by
  unfold putL
  split
  ·rfl
  ·rename_i q
   rw[dh,bE] at h
   simp only[fR]
   rw[QL (h.resolve_left q)]
set_option tactic.hygienic true in
theorem Nt {name:Str}{es:List gh}{v:h_}(h:getL name es=some (some v)):es.any (·.key.isStr name)=true:=by
 unfold getL at h
 split at h
 ·rename_i e he;exact List.any_eq_true.mpr ⟨e,List.mem_of_find?_eq_some he,List.find?_some (p:=fun e:gh=>e.key.isStr name) he⟩
 ·split at h<;>cases h
theorem Mf.put {k:Nat}{es:List gh}{f:Str->Option h_}(D:Mf k es f) (name:Str) (hsh:Int) (t:Tok) (v:h_):Mf (k+1) (putL name hsh (.str name t) v es) (upd f name (some v)):=
 ⟨fun y=>by rw[QM D.keys,D.get];unfold upd;split<;>rfl,Uv D.keys,fN (Ss es) (Nat.succ_le_succ D.len)⟩
theorem Mf.set {k:Nat}{es:List gh}{f:Str->Option h_}(D:Mf k es f) {name:Str}{old:h_}(ho:f name=some old) (hsh:Int) (t:Tok) (v:h_):Mf k (putL name hsh (.str name t) v es) (upd f name (some v)):=
 ⟨(D.put name hsh t v).get,(D.put name hsh t v).keys,by rw[QL (Nt (by rw[D.get,ho]))];exact D.len⟩
structure Inst (V:Addr->Option Obj) (x C d:Addr) (k:Nat) (f:Str->Option h_):Prop where
 i:V x=some (instObj C d)
 d:∃es n,V d=some (dictOf es n)/\Mf k es f
def Xj (K:Frag) (C:Addr) (name:Str):Bool:=plainGet K C name && hasDictIn K C && (match findIn K (.ref C) name with|some attr=>noGet K attr|none=>false)
def YD (K:Frag) (C:Addr) (name:Str):Bool:=findIn K (.ref C) "__setattr__" ==some (some (.builtin "object.__setattr__")) && plainOver K C && takerIn K C name==some none && hasDictIn K C
def W3 (K:Frag) (C:Addr) (name:Str) (f:Addr):Bool:=plainGet K C name && findIn K (.ref C) name==some (some (.ref f)) && isFn K (.ref f)
def Ws (K:Frag) (C f:Addr):Bool:=makesIn K C && findIn K (.ref C) "__init__" ==some (some (.ref f)) && isFn K (.ref f)
section
variable {prog:gP}{w:g8}{A:gY}{X:h_->Heap->Prop}{h:Heap}{env:Env}{hS:Heap}{B V:Addr->Option Obj}{L:Addr}{m:Str->Option h_}{K:Frag}{x C d:Addr}{k:Nat}{f:Str->Option h_}
theorem Inst.at (S:Zs hS B L m V h) (i:V x=some (instObj C d)) {od:Obj}(hd:V d=some od):PySem.W.InstAt h x (instObj C d) C (some od):=⟨S.YW _ _ i,rfl,rfl,S.YW _ _ hd⟩
set_option tactic.hygienic true in
theorem w_get {name:Str}{v:h_}{Q:h_->Heap->Prop}(Z:Su K hS) (S:Zs hS B L m V h) (I:Inst V x C d k f) (hv:f name=some v) (c:Xj K C name=true) (hh:dM v=true) (hq:Q v h):
  W prog w A (getAttr (.ref x) name true) Q X h:=fun s Q' E hs g gx=>by
 subst hs
 obtain ⟨es,n,hd,D⟩:=I.d
 unfold Xj at c
 obtain ⟨c,c3⟩:=g6.mp c
 obtain ⟨c1,c2⟩:=g6.mp c
 split at c3
 ·rename_i attr ha
  exact get_value (Z.at S) (Inst.at S I.i hd) (plainGet_of c1).1 (findObj_own c2 ha c3 (by rw[lookIn_dict,D.get,hv])) hh (g _ s.heap _ hq)
 ·cases c3
theorem Jz {name:Str}{fA:Addr}{pl:Sem Bool}{Q:h_×List h_->Heap->Prop}(Z:Su K hS) (S:Zs hS B L m V h) (I:Inst V x C d k f) (c:W3 K C name fA=true) (hn:f name=none) (hq:Q (.ref fA,[.ref x]) h):
  W prog w A (getMethod (.ref x) name pl) Q X h:=fun s Q' E hs g gx=>by
 subst hs
 obtain ⟨es,n,hd,D⟩:=I.d
 unfold W3 at c
 obtain ⟨c,c3⟩:=g6.mp c
 obtain ⟨c1,c2⟩:=g6.mp c
 exact method_fn (Z.at S) (Inst.at S I.i hd) (plainGet_of c1).1 (plainGet_of c1).2 (beq_iff_eq.mp c2) (beq_iff_eq.mp c3) (by show (lookIn name (dictOf es n)).map _=_;rw[lookIn_dict,D.get,hn];rfl) (g _ s.heap s.toks hq)
theorem C9 {name:Str}{v:h_}{Q:Unit->Heap->Prop}(Z:Su K hS) (S:Zs hS B L m V h) (i:V x=some (instObj C d)) {es:List gh}{n:Nat}(hd:V d=some (dictOf es n)) (D:Mf k es f) (c:YD K C name=true) (hk:k<1000)
  (g:∀es' n' h',Zs hS B L m (upd V d (some (dictOf es' n'))) h'->(∃t,Mf (k+1) es' (upd f name (some v))/\es'=putL name (PyData.keyHash w.params name) (.str name t) v es)->Q () h'):
  W prog w A (fj (.ref x) name v) Q X h:=fun s Q' E hs y gx=>by
 subst hs
 unfold YD at c
 obtain ⟨c,c4⟩:=g6.mp c
 obtain ⟨c,c3⟩:=g6.mp c
 obtain ⟨c1,c2⟩:=g6.mp c
 have I':=Inst.at S i hd
 refine set_plain (Z.at S) I' (beq_iff_eq.mp c1) (osa_dict (s:={s with toks:=s.toks+1}) (pre:= []) S.fr (S.ledger hd) (Z.at S) I' rfl c2 (beq_iff_eq.mp c3) c4 (by rw[lookIn_dict,D.get];rfl)
  (fun _ hp=>(nomatch hp)) (Mg (.head _)) (by rw[putName_dict]) rfl (fN (Ss es) (fN (Nat.succ_le_succ D.len) hk)) fun h' F N=> ?_)
 exact y () h' _ (g _ _ h' (S.QN hd F N) ⟨_,D.put _ _ _ _,rfl⟩)
theorem Jy {name:Str}{v old:h_}{Q:Unit->Heap->Prop}(Z:Su K hS) (S:Zs hS B L m V h) (I:Inst V x C d k f) (c:YD K C name=true) (ho:f name=some old)
  (g:∀es' n' h',Zs hS B L m (upd V d (some (dictOf es' n'))) h'->Mf k es' (upd f name (some v))->Q () h') (hk:k<1000:=by decide):
  W prog w A (fj (.ref x) name v) Q X h:=by
 obtain ⟨es,n,hd,D⟩:=I.d
 refine C9 Z S I.i hd D c hk fun es' n' h' S' ⟨t,D',e⟩=>g es' n' h' S' ?_
 rw[e];exact D.set ho _ _ _
theorem Jx {name:Str}{v:h_}{Q:Unit->Heap->Prop}(Z:Su K hS) (S:Zs hS B L m V h) (I:Inst V x C d k f) (c:YD K C name=true)
  (g:∀es' n' h',Zs hS B L m (upd V d (some (dictOf es' n'))) h'->Mf (k+1) es' (upd f name (some v))->Q () h') (hk:k<1000:=by decide):
  W prog w A (fj (.ref x) name v) Q X h:=by
 obtain ⟨es,n,hd,D⟩:=I.d
 exact C9 Z S I.i hd D c hk fun es' n' h' S' ⟨t,D',e⟩=>g es' n' h' S' D'
theorem BO {fI:Addr}{vs:List h_}{Q:h_->Heap->Prop}(Z:Su K hS) (S:Zs hS B L m V h) (c:Ws K C fI=true)
  (g:∀x d h',V x=none->V d=none->x≠d->Zs hS B L m (upd (upd V d (some (dictOf [] 0))) x (some (instObj C d))) h'->
   WC prog w (A.under (.builtin "type.__call__" ⟨.ref C::vs,[]⟩)) (.call (.ref fI) ⟨.ref x::vs,[]⟩) (fun v ZO=>v= .none/\Q (.ref x) ZO) X h'):
  WC prog w A (.call (.ref C) ⟨vs,[]⟩) Q X h:=fun s R hs y gx=>by
 subst hs
 unfold Ws at c
 obtain ⟨c,c3⟩:=g6.mp c
 obtain ⟨c1,c2⟩:=g6.mp c
 have KI:=Z.at S
 obtain ⟨hh,g',d',t,os⟩:=s
 refine make_core (makes_of KI c1) (looks_findIn KI (beq_iff_eq.mp c2)) (fun self=>bind_fn KI self (beq_iff_eq.mp c3)) (.inl rfl) ?_
 obtain ⟨n1,S1⟩:=S.push (o:=emptyDict) rfl
 obtain ⟨n2,S2⟩:=S1.push (o:=instObj C hh.objs.size) rfl
 rw[b8] at n2 S2
 have ne:hh.objs.size+1≠hh.objs.size:=Nat.succ_ne_self _
 rw[Z2 ne] at n2
 have z:=g _ hh.objs.size _ n2 n1 ne S2
 exact z ⟨_,g',d',t,os⟩ _ rfl (fun v ZO tk q=>⟨q.1,y _ ZO tk q.2⟩) (fun e ZO tk q=>gx e ZO tk q)
end
structure Rm (n:Nat) (A:gY):Prop where
 d:A.depth+n<=600
 u:A.units+10*n<=9000
 hd:A.handled=none
theorem Rm.deeper {n:Nat}{A:gY}{env:Env}(R:Rm (n+1) A):Rm n (A.deeper env):=⟨by have:=R.d;show A.depth+1+n<=600;omega,by have:=R.u;show A.units+3+10*n<=9000;omega,R.hd⟩
theorem Rm.room {n:Nat}{A:gY}(R:Rm n A):A.depth<recursionLimit:=by have:=R.d;show A.depth<1000;omega
theorem Rm.make {n:Nat}{A:gY}{C:Addr}{vs:List h_}(R:Rm (n+1) A):Rm n (A.under (.builtin "type.__call__" ⟨.ref C::vs,[]⟩)):=by
 have hw:(Code.builtin "type.__call__" ⟨.ref C::vs,[]⟩).weight=1:=by rfl'
 have hc:(Code.builtin "type.__call__" ⟨.ref C::vs,[]⟩).cUnits<=3:=gp (by rfl')
 refine⟨?_,?_,R.hd⟩
 ·have:=R.d;show A.depth+Code.weight _+n<=600;rw[hw];omega
 ·have:=R.u;show A.units+Code.cUnits _+10*n<=9000;omega
section
variable {prog:gP}{w:g8}{A:gY}{X:h_->Heap->Prop}{h:Heap}{env:Env}{hS:Heap}{B V:Addr->Option Obj}{L:Addr}{m:Str->Option h_}{K:Frag}
theorem W.of {α:Type}{t:Sem α}{Q:α->Heap->Prop}(x:∀(s:g7) (Q':α->g7->Prop) (E:h_->g7->Prop),s.heap=h->(∀a tk,Q a s.heap->Q' a {s with heap:=s.heap,toks:=tk})->gW (gO prog w) A t Q' E s):W prog w A t Q X h:=fun s Q' E hs k _=>
 x s Q' E hs fun a tk hq=>k a s.heap tk (hs▸hq)
section
variable {a b:Int}{t u:Tok}{Q:h_->Heap->Prop}
theorem yC (h0:0<=a) (h1:a<=1114111) (hq:∀t,Q (.str ⟨#[a.toNat]⟩ t) h):W prog w A (call (.builtin "chr") [.int a t]) Q X h:= .of fun s _ _ hs k=>chr_of_range h0 h1 (k _ _ (hs▸hq _))
theorem yz {c:Nat}(hq:∀t,Q (.int c t) h):W prog w A (call (.builtin "ord") [.str ⟨#[c]⟩ t]) Q X h:= .of fun s _ _ hs k=>P.ord_of_char (k _ _ (hs▸hq _))
theorem yy (hq:∀t,Q (.int (if a<0 then -a else a) t) h):W prog w A (call (.builtin "abs") [.int a t]) Q X h:= .of fun s _ _ hs k=>call_abs_int fun u tk=>k _ _ (hs▸hq _)
theorem BN {x:Str}(hx:x.length<2 ^ 62) (hq:∀t,Q (.int x.length t) h):W prog w A (call (.builtin "len") [.str x t]) Q X h:= .of fun s _ _ hs k=>len_str (by omega) (k _ _ (hs▸hq _))
end
abbrev WZ (vs:List h_):Obj:={cls:= .type "tuple",data:= .seq vs.toArray}
theorem Zs.isList (S:Zs hS B L m V h) {l:Addr}{its:Array h_}{n:Nat}(e:V l=some (fV its n)):h.IsList l its:=⟨_,S.YW _ _ e,rfl,n,rfl⟩
theorem Zs.isTup (S:Zs hS B L m V h) {l:Addr}{vs:List h_}(e:V l=some (WZ vs)):IsTup h l vs.toArray:=⟨_,S.YW _ _ e,rfl,_,rfl⟩
theorem K_ {vs:List h_}{Q:h_->Heap->Prop}(S:Zs hS B L m V h) (g:∀a h',V a=none->Zs hS B L m (upd V a (some (fV vs.toArray 0))) h'->Q (.ref a) h') (hsz:vs.length<=sizeLine:=by size_fits):W prog w A (newList vs) Q X h:=fun s Q' E hs k _=>by
 subst hs
 obtain ⟨n1,S1⟩:=S.push (o:=fV vs.toArray 0) rfl
 exact b7 (k _ _ s.toks (g _ _ n1 S1)) (by show vs.toArray.size<=sizeLine;rw[gM];exact hsz)
theorem Nr {vs:List h_}{Q:h_->Heap->Prop}(S:Zs hS B L m V h) (g:∀a h',V a=none->Zs hS B L m (upd V a (some (WZ vs))) h'->Q (.ref a) h') (hsz:vs.length<=sizeLine:=by size_fits):W prog w A (dg vs) Q X h:=fun s Q' E hs k _=>by
 subst hs
 obtain ⟨n1,S1⟩:=S.push (o:=WZ vs) rfl
 exact b7 (k _ _ s.toks (g _ _ n1 S1)) (by show vs.toArray.size<=sizeLine;rw[gM];exact hsz)
theorem BL {elts:List Expr}{pos:Pos}{Q:h_->Heap->Prop}(x:W prog w A (spliced (gv pos (gF elts env))) (fun vs ZU=>W prog w A (newList vs) Q X ZU) X h):W prog w A (eval (.List elts pos) env) Q X h:=fun s Q' E hs k kx=>
 List_ (x s _ E hs (fun vs ZU tk y=>y.go k kx) kx)
theorem Qh {elts:List Expr}{n:Nat}{pos:Pos}{Q:h_->Heap->Prop}(x:W prog w A (spliced (gv pos (gF elts env))) (fun vs ZU=>W prog w A (dg vs) Q X ZU) X h):W prog w A (eval (.Tuple elts n pos) env) Q X h:=fun s Q' E hs k kx=>
 Tuple_ (x s _ E hs (fun vs ZU tk y=>y.go k kx) kx)
theorem yx {l:Addr}{its:Array h_}{n:Nat}{Q:h_->Heap->Prop}(S:Zs hS B L m V h) (e:V l=some (fV its n)) (hf:its.size<2 ^ 62) (hq:∀t,Q (.int its.size t) h):W prog w A (call (.builtin "len") [.ref l]) Q X h:= .of fun s _ _ hs k=>by
 subst hs;exact call_len_list (S.isList e) (by omega) (k _ _ (hq _))
theorem Nq {l:Addr}{its:Array h_}{n:Nat}{name:Str}{id:String}{pl:Sem Bool}{Q:h_×List h_->Heap->Prop}(S:Zs hS B L m V h) (e:V l=some (fV its n)) (slot:Slot "list" name id) (hty:typeOf (.builtin id)=pure (.type "method_descriptor"))
  (hq:Q (.builtin id,[.ref l]) h):W prog w A (getMethod (.ref l) name pl) Q X h:= .of fun s _ _ hs k=>by
 subst hs;exact listMethod_K (S.ledger e) (.head _) slot hty (k _ s.toks hq)
theorem Jw {l:Addr}{its:Array h_}{n:Nat}{v:h_}{Q:h_->Heap->Prop}(S:Zs hS B L m V h) (e:V l=some (fV its n)) (g:∀h',Zs hS B L m (upd V l (some (fV (its.push v) (n+1)))) h'->Q .none h') (hsz:its.size<=sizeLine:=by size_fits):
  W prog w A (call (.builtin "list.append") [.ref l,v]) Q X h:=fun s Q' E hs k _=>by
 subst hs
 exact append_K S.fr (S.ledger e) (.head (Mg (.head _))) (fun h' F N=>k _ h' s.toks (g h' (S.QN e F N))) hsz
end
abbrev Part:=Addr->Option Obj
def Le (V V':Part):Prop:=∀a o,V a=some o->V' a=some o
theorem Le.rfl {V:Part}:Le V V:=fun _ _ e=>e
theorem Le.trans {V V' nS:Part}(x:Le V V') (y:Le V' nS):Le V nS:=fun a o e=>y a o (x a o e)
inductive rM (P Q:Part->Prop) (V:Part):Prop
 |mk (V1 V2:Part) (d:∀a,V1 a≠none->V2 a=none) (l1:Le V1 V) (l2:Le V2 V) (p:P V1) (q:Q V2)
def Z0:List (Part->Prop)->Part->Prop
 | [],_=>True
 |P::cs,V=>rM P (Z0 cs) V
theorem Z0.le:∀{cs:List (Part->Prop)}{V V':Part},Le V V'->Z0 cs V->Z0 cs V'
 | [],_,_,_,_=>trivial
 |_::_,_,_,k,⟨V1,V2,a,b,c,d,e⟩=>⟨V1,V2,a,b.trans k,c.trans k,d,e⟩
def Xi (V W:Part):Part:=fun a=>match V a with|some o=>some o|none=>W a
theorem WY {V W:Part}:Le V (Xi V W):=fun a o e=>by unfold Xi;rw[e]
theorem Wg {V W:Part}(h:∀a,V a≠none->W a=none):Le W (Xi V W):=fun a o e=>by
 unfold Xi
 cases q:V a with
 |none=>exact e
 |some o'=>rw[h a (by rw[q];exact fun z=>nomatch z)] at e;cases e
theorem Sq {V W U:Part}(x:Le V U) (y:Le W U):Le (Xi V W) U:=fun a o e=>by
 unfold Xi at e
 cases q:V a with
 |none=>rw[q] at e;exact y _ _ e
 |some o'=>rw[q] at e;cases e;exact x _ _ q
theorem Yw {V W:Part}{a:Addr}(x:V a=none) (y:W a=none):Xi V W a=none:=by unfold Xi;rw[x];exact y
theorem Zr {V V':Part}(k:Le V V') {a:Addr}(h:V' a=none):V a=none:=by
 cases q:V a with
 |none=>rfl
 |some o=>rw[k _ _ q] at h;cases h
theorem XN {V V':Part}(k:Le V V') {a:Addr}(h:V a≠none):V' a≠none:=fun q=>h (Zr k q)
theorem Z0.swap {P Q:Part->Prop}{cs:List (Part->Prop)}{V:Part}:Z0 (P::Q::cs) V->Z0 (Q::P::cs) V:=by
 rintro ⟨V1,V2,d1,l1,l2,p,V3,V4,d2,l3,l4,q,r⟩
 have d3:∀a,V1 a≠none->V4 a=none:=fun a h=>Zr l4 (d1 a h)
 refine⟨V3,Xi V1 V4,fun a h=>Yw ?_ (d2 a h),l3.trans l2,Sq l1 (l4.trans l2),q,V1,V4,d3,WY,Wg d3,p,r⟩
 cases q:V1 a with
 |none=>rfl
 |some o=>exact absurd (Zr l3 (d1 a (by rw[q];exact fun z=>nomatch z))) h
theorem Z0.weak {P:Part->Prop}{cs:List (Part->Prop)}{V:Part}:Z0 (P::cs) V->Z0 cs V:=fun⟨_,_,_,_,l2,_,r⟩=>Z0.le l2 r
theorem Z0.conv {P P':Part->Prop}{cs:List (Part->Prop)}{V:Part}(k:∀V,P V->P' V):Z0 (P::cs) V->Z0 (P'::cs) V:=fun⟨V1,V2,d,l1,l2,p,r⟩=>⟨V1,V2,d,l1,l2,k _ p,r⟩
theorem Z0.map {P:Part->Prop}{cs cs':List (Part->Prop)}{V:Part}(k:∀V,Z0 cs V->Z0 cs' V):Z0 (P::cs) V->Z0 (P::cs') V:=fun⟨V1,V2,d,l1,l2,p,r⟩=>⟨V1,V2,d,l1,l2,p,k _ r⟩
theorem Z0.open:∀{l cs:List (Part->Prop)}{V:Part},Z0 (Z0 l::cs) V->Z0 (l++cs) V
 | [],_,_,x=>x.weak
 |P::l,cs,V,⟨V1,V2,d,l1,l2,⟨V3,V4,d',l3,l4,p,q⟩,r⟩=>by
  have d2:∀a,V4 a≠none->V2 a=none:=fun a h=>d a (XN l4 h)
  refine⟨V3,Xi V4 V2,fun a h=>Yw (d' a h) (d a (XN l3 h)),l3.trans l1,Sq (l4.trans l1) l2,p,Z0.open ⟨V4,V2,d2,WY,Wg d2,q,r⟩⟩
theorem Z0.close:∀{l cs:List (Part->Prop)}{V:Part},Z0 (l++cs) V->Z0 (Z0 l::cs) V
 | [],_,V,x=>⟨fun _=>none,V,fun _ h=>absurd rfl h,(fun _ _ e=>nomatch e),Le.rfl,trivial,x⟩
 |P::l,cs,V,⟨V1,V2,d,l1,l2,p,r⟩=>by
  obtain ⟨V3,V4,d',l3,l4,q,r⟩:=Z0.close (l:=l) r
  have d2:∀a,V1 a≠none->V3 a=none:=fun a h=>Zr l3 (d a h)
  refine⟨Xi V1 V3,V4,fun a h=> ?_,Sq l1 (l3.trans l2),l4.trans l2,⟨V1,V3,d2,WY,Wg d2,p,q⟩,r⟩
  by_cases q1:V1 a=none
  ·refine d' a fun z=>h (Yw q1 z)
  ·exact Zr l4 (d a q1)
inductive SS (hS:Heap) (B:Part) (L:Addr) (m:Str->Option h_) (cs:List (Part->Prop)) (h:Heap):Prop
 |mk (V:Part) (S:Zs hS B L m V h) (p:Z0 cs V)
section
variable {hS h h':Heap}{B:Part}{L:Addr}{m m':Str->Option h_}{cs cs' R:List (Part->Prop)}{P Q T U F G H I J M N:Part->Prop}
theorem SS.Z8 (S:SS hS B L m cs h):∀a o,hS.get? a=some o->h.get? a=some o:=let ⟨_,S,_⟩:=S;S.Z8
theorem SS.YT (S:SS hS B L m cs h) (k:∀V,Z0 cs V->Z0 cs' V):SS hS B L m cs' h:=let ⟨V,S,p⟩:=S;⟨V,S,k V p⟩
theorem SS.conv (S:SS hS B L m (P::R) h) (k:∀V,P V->Q V):SS hS B L m (Q::R) h:=S.YT fun _=>Z0.conv k
theorem SS.weak (S:SS hS B L m (P::R) h):SS hS B L m R h:=S.YT fun _=>Z0.weak
theorem SS.ex {α:Sort _}{p:α->Part->Prop}(S:SS hS B L m ((fun V=>∃x,p x V)::R) h):∃x,SS hS B L m (p x::R) h:=by
 obtain ⟨V,S,V1,V2,a,b,c,⟨x,d⟩,e⟩:=S
 exact⟨x,V,S,V1,V2,a,b,c,d,e⟩
theorem SS.fact {φ:Prop}(S:SS hS B L m ((fun V=>φ/\P V)::R) h):φ/\SS hS B L m (P::R) h:=by
 obtain ⟨V,S,V1,V2,a,b,c,⟨x,d⟩,e⟩:=S
 exact⟨x,V,S,V1,V2,a,b,c,d,e⟩
end
def At (a:Addr) (o:Obj):Part->Prop:=fun V=>V a=some o
def V9 (l:Addr) (vs:List h_):Part->Prop:=fun V=>∃n,V l=some (fV vs.toArray n)
def BK (l:Addr) (vs:List h_):Part->Prop:=At l (WZ vs)
def VW (x C:Addr) (k:Nat) (f:Str->Option h_):Part->Prop:=fun V=>∃d,Inst V x C d k f
section
variable {hS h h':Heap}{B V V1 V2:Part}{L:Addr}{m m':Str->Option h_}{cs R:List (Part->Prop)}{P P':Part->Prop}
theorem SS.Np {a:Addr}{o o':Obj}(ha:V1 a=some o) (d:∀a,V1 a≠none->V2 a=none) (l1:Le V1 V) (l2:Le V2 V) (r:Z0 R V2) (S':Zs hS B L m (upd V a (some o')) h') (p':P' (upd V1 a (some o'))):SS hS B L m (P'::R) h':=by
 have n2:V2 a=none:=d a (by rw[ha];exact fun z=>nomatch z)
 refine⟨_,S',upd V1 a (some o'),V2,fun x hx=> ?_,fun x ox e=> ?_,fun x ox e=> ?_,p',r⟩
 ·by_cases q:x=a
  ·subst q;exact n2
  ·rw[Z2 q] at hx;exact d x hx
 ·by_cases q:x=a
  ·subst q;rw[Z6] at e ⊢;exact e
  ·rw[Z2 q] at e ⊢;exact l1 x ox e
 ·rw[Z2 (by rintro rfl;rw[n2] at e;cases e)];exact l2 x ox e
theorem SS.new {a:Addr}{o:Obj}(n:V a=none) (r:Z0 R V) (S':Zs hS B L m (upd V a (some o)) h'):SS hS B L m (At a o::R) h':=by
 refine⟨_,S',upd (fun _=>none) a (some o),V,fun x hx=> ?_,fun x ox e=> ?_,fun x ox e=> ?_,Z6 _ _ _,r⟩
 ·by_cases q:x=a
  ·subst q;exact n
  ·rw[Z2 q] at hx;exact absurd rfl hx
 ·by_cases q:x=a
  ·subst q;rw[Z6] at e ⊢;exact e
  ·rw[Z2 q] at e;cases e
 ·rw[Z2 (by rintro rfl;rw[n] at e;cases e)];exact e
end
section
variable {prog:gP}{w:g8}{A:gY}{X:h_->Heap->Prop}{h:Heap}{env:Env}{hS:Heap}{B:Part}{L:Addr}{m:Str->Option h_}{cs R:List (Part->Prop)}{K:Frag}
theorem Fy {x:Str}{pos:Pos}{v:h_}{Q:h_->Heap->Prop}(S:SS hS B L m cs h) (hv:m x=some v) (hq:Q v h)
  (hk:env.scope.kind= .function:=by rfl') (hL:env.locals=L:=by rfl') (hl:env.kindOf x=some .local:=by rfl') (hd:(x==("__debug__" :Str))=false:=by decide+kernel):
  W prog w A (eval (.Name x pos) env) Q X h:=let ⟨_,S,_⟩:=S;Mh S hv hq hk hL hl hd
theorem O2 {x:Str}{pos:Pos}{v:h_}{Q:h_->Heap->Prop}(Z:Su K hS) (S:SS hS B L m cs h) (e:nsIn K mainGlobals x=some (some v)) (hq:Q v h)
  (hk:env.scope.kind= .function:=by rfl') (hl:env.kindOf x=some .globalImplicit:=by rfl') (hg:env.globals=mainGlobals:=by rfl') (hd:(x==("__debug__" :Str))=false:=by decide+kernel):
  W prog w A (eval (.Name x pos) env) Q X h:=let ⟨_,S,_⟩:=S;JA Z S e hq hk hl hg hd
theorem Jv {x:Str}{pos:Pos}{v:h_}{Q:h_->Heap->Prop}(Z:Su K hS) (S:SS hS B L m cs h) (e:nsIn K mainGlobals x=some none) (hv:bootBuiltins x=some v) (hq:Q v h) (hn:x≠ "__name__" :=by decide+kernel)
  (hk:env.scope.kind= .function:=by rfl') (hl:env.kindOf x=some .globalImplicit:=by rfl') (hg:env.globals=mainGlobals:=by rfl') (hb:env.builtins=builtinsNs:=by rfl') (hd:(x==("__debug__" :Str))=false:=by decide+kernel):
  W prog w A (eval (.Name x pos) env) Q X h:=let ⟨_,S,_⟩:=S;BS Z S e hv hq hn hk hl hg hb hd
section
variable {x C:Addr}{k:Nat}{f:Str->Option h_}
theorem yw {name:Str}{v:h_}{Q:h_->Heap->Prop}(Z:Su K hS) (S:SS hS B L m (VW x C k f::R) h) (c:Xj K C name=true) (hv:f name=some v) (hh:dM v=true) (hq:Q v h):
  W prog w A (getAttr (.ref x) name true) Q X h:=by
 obtain ⟨V,S,V1,V2,d,l1,l2,⟨dd,i,es,n,a,D⟩,r⟩:=S
 exact w_get Z S ⟨l1 _ _ i,es,n,l1 _ _ a,D⟩ hv c hh hq
theorem O1 {name:Str}{fA:Addr}{pl:Sem Bool}{Q:h_×List h_->Heap->Prop}(Z:Su K hS) (S:SS hS B L m (VW x C k f::R) h) (c:W3 K C name fA=true) (hn:f name=none) (hq:Q (.ref fA,[.ref x]) h):
  W prog w A (getMethod (.ref x) name pl) Q X h:=by
 obtain ⟨V,S,V1,V2,d,l1,l2,⟨dd,i,es,n,a,D⟩,r⟩:=S
 exact Jz Z S ⟨l1 _ _ i,es,n,l1 _ _ a,D⟩ c hn hq
theorem Ju {name:Str}{v old:h_}{Q:Unit->Heap->Prop}(Z:Su K hS) (S:SS hS B L m (VW x C k f::R) h) (c:YD K C name=true) (ho:f name=some old)
  (g:∀h',SS hS B L m (VW x C k (upd f name (some v))::R) h'->Q () h') (hk:k<1000:=by decide):
  W prog w A (fj (.ref x) name v) Q X h:=by
 obtain ⟨V,S,V1,V2,d,l1,l2,⟨dd,i,es,n,a,D⟩,r⟩:=S
 refine Jy Z S ⟨l1 _ _ i,es,n,l1 _ _ a,D⟩ c ho (fun es' n' h' S' D'=>g h' (SS.Np a d l1 l2 r S' ⟨dd,Mi i a (by intro e;cases e),es',n',Z6 _ _ _,D'⟩)) hk
theorem Jt {name:Str}{v:h_}{Q:Unit->Heap->Prop}(Z:Su K hS) (S:SS hS B L m (VW x C k f::R) h) (c:YD K C name=true)
  (g:∀h',SS hS B L m (VW x C (k+1) (upd f name (some v))::R) h'->Q () h') (hk:k<1000:=by decide):
  W prog w A (fj (.ref x) name v) Q X h:=by
 obtain ⟨V,S,V1,V2,d,l1,l2,⟨dd,i,es,n,a,D⟩,r⟩:=S
 refine Jx Z S ⟨l1 _ _ i,es,n,l1 _ _ a,D⟩ c (fun es' n' h' S' D'=>g h' (SS.Np a d l1 l2 r S' ⟨dd,Mi i a (by intro e;cases e),es',n',Z6 _ _ _,D'⟩)) hk
theorem BJ {fI:Addr}{vs:List h_}{Q:h_->Heap->Prop}(Z:Su K hS) (S:SS hS B L m cs h) (c:Ws K C fI=true)
  (g:∀x h',SS hS B L m (VW x C 0 (fun _=>none)::cs) h'->
   WC prog w (A.under (.builtin "type.__call__" ⟨.ref C::vs,[]⟩)) (.call (.ref fI) ⟨.ref x::vs,[]⟩) (fun v ZO=>v= .none/\Q (.ref x) ZO) X h'):
  WC prog w A (.call (.ref C) ⟨vs,[]⟩) Q X h:=by
 obtain ⟨V,S,p⟩:=S
 refine BO Z S c fun x d h' nx nd ne S'=>g x h' ⟨_,S',upd (upd (fun _=>none) d (some (dictOf [] 0))) x (some (instObj C d)),V,fun y hy=> ?_,fun y oy e=> ?_,fun y oy e=> ?_,⟨d,Z6 _ _ _,[],0,?_,Mf.nil⟩,p⟩
 ·by_cases q:y=x
  ·subst q;exact nx
  ·rw[Z2 q] at hy
   by_cases q:y=d
   ·subst q;exact nd
   ·rw[Z2 q] at hy;exact absurd rfl hy
 ·by_cases q:y=x
  ·subst q;rw[Z6] at e ⊢;exact e
  ·rw[Z2 q] at e ⊢
   by_cases q:y=d
   ·subst q;rw[Z6] at e ⊢;exact e
   ·rw[Z2 q] at e;cases e
 ·rw[Z2 (by rintro rfl;rw[nx] at e;cases e),Z2 (by rintro rfl;rw[nd] at e;cases e)];exact e
 ·rw[Z2 ne.symm];exact Z6 _ _ _
end
theorem K9 {vs:List h_}{Q:h_->Heap->Prop}(S:SS hS B L m cs h) (g:∀a h',SS hS B L m (V9 a vs::cs) h'->Q (.ref a) h') (hsz:vs.length<=sizeLine:=by size_fits):W prog w A (newList vs) Q X h:=by
 obtain ⟨V,S,p⟩:=S
 exact K_ S (fun a h' n S'=>g a h' (SS.conv (SS.new n p S') fun V e=>⟨0,e⟩)) hsz
theorem U' {vs:List h_}{Q:h_->Heap->Prop}(S:SS hS B L m cs h) (g:∀a h',SS hS B L m (BK a vs::cs) h'->Q (.ref a) h') (hsz:vs.length<=sizeLine:=by size_fits):W prog w A (dg vs) Q X h:=by
 obtain ⟨V,S,p⟩:=S
 exact Nr S (fun a h' n S'=>g a h' (SS.new n p S')) hsz
section
variable {l:Addr}{vs:List h_}
theorem SS.lst (S:SS hS B L m (V9 l vs::R) h):∃V n,Zs hS B L m V h/\V l=some (fV vs.toArray n):=by
 obtain ⟨V,S,V1,V2,d,l1,l2,⟨n,a⟩,r⟩:=S
 exact⟨V,n,S,l1 _ _ a⟩
theorem yv {Q:h_->Heap->Prop}(S:SS hS B L m (V9 l vs::R) h) (hf:vs.length<2 ^ 62) (hq:∀t,Q (.int vs.length t) h):W prog w A (call (.builtin "len") [.ref l]) Q X h:=by
 obtain ⟨V,n,S,e⟩:=S.lst
 exact yx S e (by rw[gM];exact hf) (by rw[gM];exact hq)
theorem Nn {name:Str}{id:String}{pl:Sem Bool}{Q:h_×List h_->Heap->Prop}(S:SS hS B L m (V9 l vs::R) h) (slot:Slot "list" name id) (hty:typeOf (.builtin id)=pure (.type "method_descriptor"))
  (hq:Q (.builtin id,[.ref l]) h):W prog w A (getMethod (.ref l) name pl) Q X h:=by
 obtain ⟨V,n,S,e⟩:=S.lst
 exact Nq S e slot hty hq
theorem Js {v:h_}{Q:h_->Heap->Prop}(S:SS hS B L m (V9 l vs::R) h) (g:∀h',SS hS B L m (V9 l (vs++ [v])::R) h'->Q .none h') (hsz:vs.length<=sizeLine:=by size_fits):
  W prog w A (call (.builtin "list.append") [.ref l,v]) Q X h:=by
 obtain ⟨V,S,V1,V2,d,l1,l2,⟨n,a⟩,r⟩:=S
 refine Jw S (l1 _ _ a) (fun h' S'=>g h' (SS.Np a d l1 l2 r S' ⟨n+1,?_⟩)) (by rw[gM];exact hsz)
 rw[Z6,List.push_toArray]
end
end
section
variable {hS h h':Heap}{B V:Part}{L:Addr}{m m':Str->Option h_}{cs R:List (Part->Prop)}{P P':Part->Prop}
theorem SS.frame (S:SS hS B L m (P::R) h):∃yu,SS hS yu L m R h/\∀m' R' h',SS hS yu L m' R' h'->SS hS B L m' (P::R') h':=by
 obtain ⟨V,S,V1,V2,d,l1,l2,p,r⟩:=S
 have e1:∀a o,B a=some o->V1 a=none:=fun a o e=>by
  cases q:V1 a with
  |none=>rfl
  |some o'=>have:=S.vb _ _ (l1 _ _ q);rw[e] at this;cases this
 have hb:∀a o,B a=some o->Xi B V1 a=some o:=fun a o e=>by unfold Xi;rw[e]
 have hv:∀a o,V1 a=some o->Xi B V1 a=some o:=fun a o e=>by
  unfold Xi;rw[S.vb _ _ (l1 _ _ e)];exact e
 have hor:∀a o,Xi B V1 a=some o->B a=some o\/V1 a=some o:=fun a o e=>by
  unfold Xi at e
  cases q:B a with
  |none=>rw[q] at e;exact .inr e
  |some o'=>rw[q] at e;exact .inl e
 have nR:V1 L=none:=Zr l1 S.vl
 refine⟨Xi B V1,⟨V2,⟨fun a o e=>hb a o (S.st a o e),fun a o e=> ?_,fun a o e=>S.YW a o (l2 a o e),S.loc,fun a o e=> ?_,Zr l2 S.vl,?_⟩,r⟩,fun m' R' h' S'=> ?_⟩
 ·rcases hor a o e with e|e
  ·exact S.keep a o e
  ·exact S.YW a o (l1 a o e)
 ·refine Yw (S.vb _ _ (l2 _ _ e)) ?_
  cases q:V1 a with
  |none=>rfl
  |some o'=>rw[d a (by rw[q];exact fun z=>nomatch z)] at e;cases e
 ·exact Yw S.bl nR
 ·obtain ⟨V',S',r'⟩:=S'
  have d':∀a,V1 a≠none->V' a=none:=fun a ha=>by
   cases q:V' a with
   |none=>rfl
   |some o=>
    have:=S'.vb a o q
    cases q1:V1 a with
    |none=>exact absurd q1 ha
    |some o1=>rw[hv a o1 q1] at this;cases this
  refine⟨Xi V1 V',⟨S.st,fun a o e=>S'.keep a o (hb a o e),fun a o e=> ?_,S'.loc,fun a o e=> ?_,Yw nR S'.vl,S.bl⟩,V1,V',d',WY,Wg d',p,r'⟩
  ·unfold Xi at e
   cases q:V1 a with
   |none=>rw[q] at e;exact S'.YW a o e
   |some o1=>rw[q] at e;cases e;exact S'.keep a _ (hv a _ q)
  ·unfold Xi at e
   cases q:V1 a with
   |none=>
    rw[q] at e
    have:=S'.vb a o e
    exact Zr (V':=Xi B V1) (fun a o e=>hb a o e) this
   |some o1=>exact S.vb _ _ (l1 _ _ q)
theorem SS.O0 {P':Part->Prop}{V1 V2:Part}(S:Zs hS B L m V h) (d:∀a,V1 a≠none->V2 a=none) (l1:Le V1 V) (l2:Le V2 V) (r:Z0 R V2)
  (hk:∀a o,V1 a=none->h.get? a=some o->h'.get? a=some o) (UR:Part) (h1:∀a,UR a≠none->V1 a≠none) (h2:∀a o,UR a=some o->h'.get? a=some o) (p:P' UR):SS hS B L m (P'::R) h':=by
 have kL:∀{a:Addr},V1 a=none->UR a=none:=fun{a} q=>by
  cases q':UR a with
  |none=>rfl
  |some o=>exact absurd q (h1 a (by rw[q'];exact fun z=>nomatch z))
 have d':∀a,UR a≠none->V2 a=none:=fun a ha=>d a (h1 a ha)
 have kK:∀a o,B a=some o->V1 a=none:=fun a o e=>by
  cases q:V1 a with
  |none=>rfl
  |some o'=>have:=S.vb _ _ (l1 _ _ q);rw[e] at this;cases this
 refine⟨Xi UR V2,⟨S.st,fun a o e=>hk a o (kK a o e) (S.keep a o e),fun a o e=> ?_,?_,fun a o e=> ?_,Yw (kL (Zr l1 S.vl)) (Zr l2 S.vl),S.bl⟩,UR,V2,d',WY,Wg d',p,r⟩
 ·unfold Xi at e
  cases q:UR a with
  |some o1=>rw[q] at e;cases e;exact h2 _ _ q
  |none=>
   rw[q] at e
   refine hk a o ?_ (S.YW a o (l2 a o e))
   cases q1:V1 a with
   |none=>rfl
   |some o1=>rw[d a (by rw[q1];exact fun z=>nomatch z)] at e;cases e
 ·exact S.loc.at' fun o e=>hk L o (Zr l1 S.vl) e
 ·unfold Xi at e
  cases q:UR a with
  |none=>rw[q] at e;exact S.vb _ _ (l2 _ _ e)
  |some o1=>
   cases q1:V1 a with
   |none=>exact absurd q1 (h1 a (by rw[q];exact fun z=>nomatch z))
   |some o2=>exact S.vb _ _ (l1 _ _ q1)
end
def kJ (fp:List Addr) (St:Nat->Heap->Prop) (i:Nat):Part->Prop:=fun V=>(∀b∈fp,V b≠none)/\(∀b,V b≠none->b∈fp)/\∀h:Heap,(∀a o,V a=some o->h.get? a=some o)->St i h
def WS (fp:List Addr) (h:Heap):Part:=fun a=>if a∈fp then h.get? a else none
def kH:Part->Prop:=fun _=>True
theorem SS.shrink {hS h:Heap}{B:Part}{L:Addr}{m:Str->Option h_}{R:List (Part->Prop)}{P P':Part->Prop}(S:SS hS B L m (P::R) h) (k:∀V,P V->∃V',Le V' V/\P' V'):SS hS B L m (P'::R) h:=by
 obtain ⟨V,S,V1,V2,d,l1,l2,p,r⟩:=S
 obtain ⟨V',l,p'⟩:=k _ p
 exact⟨V,S,V',V2,fun a h=>d a (XN l h),l.trans l1,l2,p',r⟩
theorem SS.OZ {hS h:Heap}{B:Part}{L:Addr}{m:Str->Option h_}{R:List (Part->Prop)}{P':Part->Prop}{a:Addr}{o:Obj}(S:SS hS B L m (At a o::R) h) (k:P' (upd (fun _=>none) a (some o))):SS hS B L m (P'::R) h:=
 S.shrink fun V e=>by
  refine⟨upd (fun _=>none) a (some o),fun x ox e'=> ?_,k⟩
  by_cases q:x=a
  ·subst q;rw[Z6] at e';rw[<-e'];exact e
  ·rw[Z2 q] at e';cases e'
section
variable {prog:gP}{w:g8}{A:gY}{X:h_->Heap->Prop}{h:Heap}{hS:Heap}{B:Part}{L:Addr}{m:Str->Option h_}{cs R:List (Part->Prop)}{Q:h_->Heap->Prop}
def Qg (r:Addr) (a b c:Int):Part->Prop:=fun V=>∃t u v,V r=some {cls:= .type "range",dict:=none,data:= .fields #[.int a t,.int b u,.int c v],slots:= #[]}
end
section
variable {prog:gP}{w:g8}{A:gY}{X:h_->Heap->Prop}{h:Heap}{env:Env}{hS:Heap}{B:Part}{L:Addr}{m:Str->Option h_}{cs R:List (Part->Prop)}{K:Frag}
def WF (prog:gP) (w:g8) (A:gY) (c:Code) (Q:Flow->Heap->Prop) (h:Heap):Prop:=
 ∀(s:g7) (R:Result->g7->Prop),s.heap=h->(∀f h' tk,Q f h'->R (.ok f) {s with heap:=h',toks:=tk})->codeAny (gO prog w) A c R s
theorem yt {target iter:Expr}{body orelse:List Stmt}{pos:Pos}{Q:Flow->Heap->Prop}
  (x:W prog w A (eval iter env) (fun xv ZU=>W prog w A (fM xv) (fun it ZO=>WF prog w A (.forLoop target it body orelse env) Q ZO) X ZU) X h)
  (hs:∀x,foldedSetIterable iter env x=pure x:=by intro _;rfl'):W prog w A (exec (.For target iter body orelse pos) env) Q X h:=fun s Q' E hs' k kx=>
 wpAny_For (x s _ E hs' (fun xv ZU tk y=>y.go (fun it ZO tk y=>y _ _ rfl (fun f h' tk q=>k f h' tk q)) kx) kx) hs
theorem Fx {test:Expr}{body orelse:List Stmt}{pos:Pos}{Q:Flow->Heap->Prop}(x:WF prog w A (.whileLoop test body orelse env) Q h):W prog w A (exec (.While test body orelse pos) env) Q X h:=fun s Q' E hs k kx=>
 wpAny_While (x s _ hs (fun f h' tk q=>k f h' tk q))
set_option tactic.hygienic true in
theorem OY {test:Expr}{body:List Stmt}{Q:Flow->Heap->Prop}(I:Nat->Heap->Prop)
  (turn:∀n h,I n h->W prog w A (gc test env (eval test env)) (fun b h'=>(b=true->W prog w A (fY body env) (fun f h'=>match f with
   | .next| .cont=>∃k,k<n/\I k h'
   | .brk=>Q .next h'
   | .ret v=>Q (.ret v) h') (fun _ _=>False) h')/\(b=false->Q .next h')) (fun _ _=>False) h) (n:Nat) (h0:I n h):WF prog w A (.whileLoop test body [] env) Q h:=fun s R hs g=>by
 refine codeAny_whileLoop (fun n s'=>∃h' tk,s'={s with heap:=h',toks:=tk}/\I n h') ?_ n ⟨h,s.toks,by subst hs;rfl,h0⟩
 rintro n _ ⟨h',tk,rfl,hI⟩
 refine(turn n h' hI).go (fun b ZU OX y=> ?_) (fun _ _ _ y=>y.elim)
 cases b with
 |false=>exact wpAny_execs_nil (g _ _ _ (y.2 rfl))
 |true=>
  refine(y.1 rfl).go (fun f ZO VV z=> ?_) (fun _ _ _ y=>y.elim)
  cases f with
  |next=>obtain ⟨k,hk,z⟩:=z;exact⟨k,hk,_,_,rfl,z⟩
  |cont=>obtain ⟨k,hk,z⟩:=z;exact⟨k,hk,_,_,rfl,z⟩
  |brk=>exact g _ _ _ z
  |ret v=>exact g _ _ _ z
end
def Vg (c:Addr) (v:Option h_):Part->Prop:=fun V=>∃o,V c=some o/\o.data= .cell v
section
variable {prog:gP}{w:g8}{A:gY}{X:h_->Heap->Prop}{h:Heap}{env:Env}{hS:Heap}{B:Part}{L:Addr}{m:Str->Option h_}{cs R:List (Part->Prop)}{K:Frag}
theorem QK {t value:Expr}{pos:Pos}{Q:Flow->Heap->Prop}(x:W prog w A (eval value env) (fun v h'=>W prog w A (fJ t env v) (fun _ h''=>Q .next h'') X h') X h)
  (hs:swapsWithSole [t] value pos.line env=pure false:=by rfl') (hw:cK [t] value env=pure none:=by rfl')
  (he:eK [t] env= [(false,fJ t env)]:=by rfl'):W prog w A (exec (.Assign [t] value pos) env) Q X h:=fun s Q' E hs' k kx=>
 wpAny_Assign_stores (x s _ E hs' (fun v h' tk y=>by rw[he];exact y.go (fun _ h'' tk q=>k _ h'' tk q) kx) kx) hs hw
theorem K8 {o:Expr}{attr:Str}{pos:Pos}{v:h_}{Q:Unit->Heap->Prop}(x:W prog w A (eval o env) (fun ov h'=>W prog w A (fj ov attr v) Q X h') X h):W prog w A (fJ (.Attribute o attr pos) env v) Q X h:=fun s Q' E hs k kx=>
 g_ (fu (x s _ E hs (fun ov h' tk y=>g_ (cL (g_ (fu (y.go (fun _ h'' tk q=>wpAny_release (k _ h'' tk q)) kx))))) kx))
theorem Jr {o i:Expr}{pos:Pos}{v:h_}{Q:Unit->Heap->Prop}(x:W prog w A (eval o env) (fun ov h'=>W prog w A (eval i env) (fun iv h'=>W prog w A (d_ ov iv v) Q X h') X h') X h):W prog w A (fJ (.Subscript o i pos) env v) Q X h:=fun s Q' E hs k kx=>
 g_ (fu (x s _ E hs (fun ov h' tk y=>g_ (fu (y.go (fun iv h' tk y=>g_ (cL (g_ (fu (y.go (fun _ h'' tk q=>wpAny_release (k _ h'' tk q)) kx))))) kx))) kx))
theorem Uu {x:Str}{pos:Pos}{v:h_}{Q:Unit->Heap->Prop}(S:SS hS B L m cs h) (hq:∀h'',SS hS B L (upd m x (some v)) cs h''->Q () h'')
  (hl:env.kindOf x=some .local:=by rfl') (hL:env.locals=L:=by rfl') (hp:(env.scope.kind== .class||(env.scope.kind== .module && env.locals !=env.globals))=false:=by rfl'):
  W prog w A (fJ (.Name x pos) env v) Q X h:=fun s Q' E hs k kx=>by
 obtain ⟨V,S,p⟩:=S
 subst hL;subst hs
 exact wpAny_assign_Name (aH hl S.loc (fun h'' hn hb=>k _ h'' _ (hq h'' ⟨V,S.store hn hb,p⟩)) hp)
theorem Fw {Q:Unit->Heap->Prop}(hq:Q () h):W prog w A (bZ ((eK [] env).map (·.2)) []) Q X h:=W.pure (a:=()) hq
theorem BH {t:Expr}{rest:List Expr}{x:h_}{xs:List h_}{Q:Unit->Heap->Prop}(y:W prog w A (fJ t env x) (fun _ h'=>W prog w A (bZ ((eK rest env).map (·.2)) xs) Q X h') X h)
  (he:eK (t::rest) env=(false,fJ t env)::eK rest env:=by rfl'):W prog w A (bZ ((eK (t::rest) env).map (·.2)) (x::xs)) Q X h:=by
 rw[he]
 exact W.bind (W.holding y)
theorem K7 {elts:List Expr}{k:Nat}{tpos pos:Pos}{value:Expr}{names:List Str}{Q:Flow->Heap->Prop}
  (x:W prog w A (eval value env) (fun v h'=>∃T vs B m R,v= .ref T/\names.length=vs.length/\SS hS B env.locals m (BK T vs::R) h'/\
   ∀h'',SS hS B env.locals ((gH names vs).foldr (fun p m=>upd m p.1 (some p.2)) m) (BK T vs::R) h''->Q .next h'') X h)
  (hh:A.handled=none)
  (hw:cK [.Tuple elts k tpos] value env=pure (some names):=by rfl') (hs:swapsWithSole [.Tuple elts k tpos] value pos.line env=pure false:=by rfl')
  (hl:(names.all fun n=>env.kindOf n==some .local)=true:=by rfl') (hp:(env.scope.kind== .class||(env.scope.kind== .module && env.locals !=env.globals))=false:=by rfl'):
  W prog w A (exec (.Assign [.Tuple elts k tpos] value pos) env) Q X h:=fun s Q' E hs' q kx=>by
 refine Assign_Tuple_swapped (x s _ E hs' (fun v h' tk y=> ?_) kx) hs hw
 obtain ⟨T,vs,B,m,R,rfl,hn,⟨V,S,p⟩,g⟩:=y
 obtain ⟨V1,V2,d,l1,l2,a,r⟩:=id p
 have e:names.length=vs.toArray.size:=by rw[gM];exact hn
 rw[e]
 refine unpackItems_tuple hh (S.isTup (l1 _ _ a)) fun ZU he=> ?_
 have rK:Zs hS B env.locals m V ZU:=S.keeps fun a o e=>he a o (f_ (gJ e)) e
 have key:∀(ns:List Str) (us:List h_) (m:Str->Option h_) (h:Heap) (tk:Nat) (F:Unit->g7->Prop),(∀n∈ns,env.kindOf n=some .local)->ns.length=us.length->Zs hS B env.locals m V h->
   (∀h' tk,Zs hS B env.locals ((gH ns us).foldl (fun m p=>upd m p.1 (some p.2)) m) V h'->F () {s with heap:=h',toks:=tk})->
   gW (gO prog w) A (bZ (ns.map fun n=>bindName env n) us) F E {s with heap:=h,toks:=tk}:=by
  intro ns
  induction ns with
  |nil=>intro us m h tk F _ hl S fin;cases us with
   |nil=>exact gU (fin h tk S)
   |cons u us=>cases hl
  |cons n ns ih=>
   intro us m h tk F hk hl S fin
   cases us with
   |nil=>cases hl
   |cons u us=>
    refine g_ (fu (wpAny_bindName (aH (hk n (.head _)) S.loc (fun h'' hn hb=> ?_) hp)))
    exact ih us _ h'' _ F (fun n' h'=>hk n' (.tail _ h')) (by simpa using hl) (S.store hn hb) fin
 refine key names.reverse vs.reverse m ZU _ _ (fun n hn'=> ?_) (by simp[hn]) rK fun h' tk S'=>q _ h' tk (g h' ⟨V,?_,p⟩)
 ·have:=gu.mp hl n (List.mem_reverse.mp hn');simpa using this
 ·have e2:(gH names.reverse vs.reverse)=(gH names vs).reverse:=(List.zip_eq_zipWith.trans (by rw[<-List.reverse_zipWith hn,List.zip_eq_zipWith]))
  rw[e2,List.foldl_reverse] at S'
  exact S'
theorem Fv {pos:Pos}{Q:Flow->Heap->Prop}(hq:Q .brk h):W prog w A (exec (.Break pos) env) Q X h:=fun s Q' E hs k kx=>by subst hs;exact wpAny_Break (k _ s.heap s.toks hq)
theorem BF {x:Str}{pos:Pos}{c:Addr}{v:h_}{Q:h_->Heap->Prop}(S:SS hS B L m (Vg c (some v)::R) h) (hq:Q v h) (hc:env.cells.lookup x=some c:=by rfl')
  (hk:env.scope.kind= .function:=by rfl') (hl:(env.kindOf x==some .cell||env.kindOf x==some .free)=true:=by rfl') (hd:(x==("__debug__" :Str))=false:=by decide+kernel) (hn:(x==("__classdict__" :Str))=false:=by decide+kernel):
  W prog w A (eval (.Name x pos) env) Q X h:=fun s Q' E hs k kx=>by
 subst hs
 obtain ⟨V,S,V1,V2,d,l1,l2,⟨o,e,hd'⟩,r⟩:=S
 have hc':s.heap.IsCell c (some v):=⟨o,S.YW _ _ (l1 _ _ e),hd'⟩
 refine wpAny_Name ?_ hd
 rcases bE _ _▸hl with hl|hl
 ·exact wpAny_loadName_cell hk (beq_iff_eq.mp hl) hc hc' (k _ s.heap s.toks hq)
 ·exact wpAny_loadName_free hk (beq_iff_eq.mp hl) hc hc' (k _ s.heap s.toks hq) hn
theorem K6 {x:Str}{pos:Pos}{c:Addr}{v:h_}{rJ:Option h_}{Q:Unit->Heap->Prop}(S:SS hS B L m (Vg c rJ::R) h) (hq:∀h'',SS hS B L m (Vg c (some v)::R) h''->Q () h'') (hc:env.cells.lookup x=some c:=by rfl')
  (hk:env.scope.kind= .function:=by rfl') (hl:env.kindOf x=some .cell:=by rfl'):W prog w A (fJ (.Name x pos) env v) Q X h:=fun s Q' E hs k kx=>by
 subst hs
 obtain ⟨V,S,V1,V2,d,l1,l2,⟨o,e,hd'⟩,r⟩:=S
 refine wpAny_assign_Name (wpAny_storeName_cell hk hl hc ⟨o,S.YW _ _ (l1 _ _ e),hd'⟩ fun h' ⟨o',e',rH⟩ hb=>k _ h' _ (hq h' ?_))
 exact SS.Np e d l1 l2 r (S.change (l1 _ _ e) hb e') ⟨o',Z6 _ _ _,rH⟩
end
theorem Wf {α:Type}:∀{l:List (Str×α)},(l.map (·.1)).Nodup->∀{n:Str}{c:α},(n,c)∈l->l.lookup n=some c
 |(k,v)::r,hd,n,c,hm=>by
  rw[gb,bY] at hd
  rw[dD]
  rcases gy.mp hm with e|hm
  ·cases e;simp
  ·have ne:n≠k:=fun q=>hd.1 (dX.mpr ⟨(n,c),hm,q⟩)
   have:(n==k)=false:=by simpa using ne
   rw[this]
   exact Wf hd.2 hm
section
variable {prog:gP}{w:g8}{A:gY}{X:h_->Heap->Prop}{h:Heap}{env:Env}{hS:Heap}{B:Part}{L:Addr}{m:Str->Option h_}{cs R:List (Part->Prop)}{K:Frag}
theorem adopt {cm:Str->Option h_}:∀(l:List (Str×Addr)) {V:Part},Zs hS B L m V h->Z0 cs V->(∀x∈l,h.IsCell x.2 (cm x.1))->l.Pairwise (fun x y=>x.2≠y.2)->(∀x∈l,V x.2=none/\B x.2=none/\x.2≠L)->
  ∃V',Zs hS B L m V' h/\Z0 (l.map (fun x=>Vg x.2 (cm x.1))++cs) V'/\∀a,(∀x∈l,a≠x.2)->V' a=V a
 | [],V,S,p,_,_,_=>⟨V,S,p,fun _ _=>rfl⟩
 |x::l,V,S,p,hc,hp,hn=>by
  rw[List.pairwise_cons] at hp
  obtain ⟨V',S',p',k⟩:=adopt l S p (fun y hy=>hc y (.tail _ hy)) hp.2 fun y hy=>hn y (.tail _ hy)
  obtain ⟨o,e,hd⟩:=hc x (.head _)
  obtain ⟨n1,n2,n3⟩:=hn x (.head _)
  have nQ:V' x.2=none:=by rw[k x.2 fun y hy=>hp.1 y hy];exact n1
  have yr:Zs hS B L m (upd V' x.2 (some o)) h:=by
   refine⟨S'.st,S'.keep,fun a oa ea=> ?_,S'.loc,fun a oa ea=> ?_,?_,S'.bl⟩
   ·by_cases q:a=x.2
    ·subst q;rw[Z6] at ea;cases ea;exact e
    ·rw[Z2 q] at ea;exact S'.YW a oa ea
   ·by_cases q:a=x.2
    ·subst q;exact n2
    ·rw[Z2 q] at ea;exact S'.vb a oa ea
   ·rw[Z2 n3.symm];exact S'.vl
  refine⟨_,yr,⟨upd (fun _=>none) x.2 (some o),V',fun y hy=> ?_,fun y oy ey=> ?_,fun y oy ey=> ?_,⟨o,Z6 _ _ _,hd⟩,p'⟩,fun a ha=> ?_⟩
  ·by_cases q:y=x.2
   ·subst q;exact nQ
   ·rw[Z2 q] at hy;exact absurd rfl hy
  ·by_cases q:y=x.2
   ·subst q;rw[Z6] at ey ⊢;exact ey
   ·rw[Z2 q] at ey;cases ey
  ·rw[Z2 (by rintro rfl;rw[nQ] at ey;cases ey)];exact ey
  ·rw[Z2 (ha x (.head _))];exact k a fun y hy=>ha y (.tail _ hy)
end
def Xh (fd:fL) (a:List h_):{k:Option (Array h_)->Sem (List (Str×h_)) // bindArgs fd ⟨a,[]⟩=seqItems? fd.defaults>>=k}:=⟨_,rfl⟩
theorem Jq {K:Frag}{fd:fL}{a:List h_}{binds:List (Str×h_)}{T:Addr}{o:Obj}{items:Array h_}{n:Nat}(hd:fd.defaults= .ref T) (ho:K.lookup T=some o) (hs:o.data= .seq items n)
  (ZO:(Xh fd a).1 (some items)=pure binds):∀s:g7,K.In s.heap->BindsTo s fd ⟨a,[]⟩ binds:=fun s X=>BindsTo.of_defaults hd (X _ _ ho) hs (Xh fd a).2 ZO
section
variable {prog:gP}{w:g8}{A:gY}{X:h_->Heap->Prop}{h h':Heap}{env:Env}{hS:Heap}{B V:Part}{L:Addr}{m:Str->Option h_}{cs R:List (Part->Prop)}{K:Frag}
theorem SS.grown {P:Part->Prop}{D:Addr}{o:Obj}(S:SS hS B L m cs h) (hk:∀a o,h.get? a=some o->h'.get? a=some o) (hD:h.get? D=none) (ho:h'.get? D=some o) (p:P (upd (fun _=>none) D (some o))):SS hS B L m (P::cs) h':=by
 obtain ⟨V,S,r⟩:=S
 have n1:V D=none:=by
  cases e:V D with
  |none=>rfl
  |some o'=>rw[S.YW _ _ e] at hD;cases hD
 have n2:B D=none:=by
  cases e:B D with
  |none=>rfl
  |some o'=>rw[S.keep _ _ e] at hD;cases hD
 have n3:L≠D:=by
  obtain ⟨oL,_,_,e,_⟩:=S.loc
  rintro rfl;rw[hD] at e;cases e
 have S':Zs hS B L m (upd V D (some o)) h':=by
  have S1:=S.keeps hk
  refine⟨S1.st,S1.keep,fun a oa ea=> ?_,S1.loc,fun a oa ea=> ?_,?_,S1.bl⟩
  ·by_cases q:a=D
   ·subst q;rw[Z6] at ea;cases ea;exact ho
   ·rw[Z2 q] at ea;exact S1.YW a oa ea
  ·by_cases q:a=D
   ·subst q;exact n2
   ·rw[Z2 q] at ea;exact S1.vb a oa ea
  ·rw[Z2 n3];exact S1.vl
 exact(SS.new n1 r S').OZ p
theorem SS.keeps (S:SS hS B L m cs h) (hk:∀a o,h.get? a=some o->h'.get? a=some o):SS hS B L m cs h':=let ⟨V,S,p⟩:=S;⟨V,S.keeps hk,p⟩
theorem VU (h:Heap):h.get? h.objs.size=none:=by
 cases e:h.get? h.objs.size with
 |none=>rfl
 |some o=>exact absurd (gJ e) (eT _)
theorem SS.Xg {P:Part->Prop}{o:Obj}(S:SS hS B L m cs h) (hf:o.isFreed=false) (p:P (upd (fun _=>none) h.objs.size (some o))):SS hS B L m (P::cs) (h.push o):=
 S.grown (fun a o e=>gD _ e) (VU h) (fy _ hf) p
theorem SS.YF {l:Addr}{vs:List h_}(S:SS hS B L m (V9 l vs::R) h):∃n,h.get? l=some (fV vs.toArray n):=let ⟨V,n,S,e⟩:=S.lst;⟨n,S.YW _ _ e⟩
theorem SS.Jp {P:Part->Prop}{D:Addr}{o:Obj}(S:SS hS B L m cs h) (F:Fr {} L h' m) (N:News {} L h' ((D,o)::rest h L [])) (hD:h.get? D=none) (p:P (upd (fun _=>none) D (some o))):SS hS B L m (P::cs) h':=by
 obtain ⟨V,S,r⟩:=S
 have n1:V D=none:=by
  cases e:V D with
  |none=>rfl
  |some o'=>rw[S.YW _ _ e] at hD;cases hD
 have n2:B D=none:=by
  cases e:B D with
  |none=>rfl
  |some o'=>rw[S.keep _ _ e] at hD;cases hD
 have n3:L≠D:=by
  obtain ⟨oL,_,_,e,_⟩:=S.loc
  rintro rfl;rw[hD] at e;cases e
 have k:∀a o,h.get? a=some o->a≠L->h'.get? a=some o:=fun a o e q=>(N (a,o) (.tail _ (VX.mpr ⟨e,q,by simp⟩))).1
 have S':Zs hS B L m (upd V D (some o)) h':=by
  refine⟨S.st,fun a oa ea=>k a oa (S.keep _ _ ea) (by rintro rfl;rw[S.bl] at ea;cases ea),fun a oa ea=> ?_,F.ns,fun a oa ea=> ?_,?_,S.bl⟩
  ·by_cases q:a=D
   ·subst q;rw[Z6] at ea;cases ea;exact(N _ (.head _)).1
   ·rw[Z2 q] at ea;exact k a oa (S.YW a oa ea) (by rintro rfl;rw[S.vl] at ea;cases ea)
  ·by_cases q:a=D
   ·subst q;exact n2
   ·rw[Z2 q] at ea;exact S.vb a oa ea
  ·rw[Z2 n3];exact S.vl
 exact(SS.new n1 r S').OZ p
theorem SS.fr (S:SS hS B L m cs h):Fr {} L h m:=let ⟨_,S,_⟩:=S;S.fr
def Qf (vs:List h_) (lo hi:Option Int):List h_:=(slicePick vs.toArray lo hi none).toList
theorem BE {e:Expr}{Q:h_->Heap->Prop}(x:W prog w A (eval e env) Q X h):W prog w A (evalPart (some e) env) Q X h:=by rw[evalPart_some];exact x
theorem Ft {Q:h_->Heap->Prop}(hq:Q .none h):W prog w A (evalPart none env) Q X h:=by rw[evalPart_none];exact W.pure hq
theorem Fq {o:Expr}{name:Str}{apos pos:Pos}{args:List Expr}{Q:h_->Heap->Prop}
  (x:W prog w A (eval o env) (fun ov ZU=>W prog w A (getMethod ov name (do return (<-importBound o env).getD true)) (fun fx ZO=>W prog w A (eZ pos fx.1 fx.2 (gv pos (gF args env)) []) Q X ZO) X ZU) X h)
  (he:eval (.Call (.Attribute o name apos) args [] pos) env=(do
   let ov<-eval o env
   standAt apos.atName
   let (f,first)<-holding [ov] (getMethod ov name (do return (<-importBound o env).getD true))
   eZ pos f first (gv pos (gF args env)) []):=by rfl'):
  W prog w A (eval (.Call (.Attribute o name apos) args [] pos) env) Q X h:=BP x he
theorem BD {op:UnaryOp}{x:Expr}{pos:Pos}{Q:h_->Heap->Prop}(y:W prog w A (eval x env) (fun v h'=>W prog w A (unaryOp op v) Q X h') X h):W prog w A (eval (.UnaryOp op x pos) env) Q X h:=fun s Q' E hs k kx=>
 wpAny_UnaryOp (y s _ E hs (fun v h' tk z=>z.go k kx) kx)
theorem SS.C8 (S:SS hS B L m cs h) (F:Fr {} L h' m) (N:News {} L h' (rest h L [])):SS hS B L m cs h':=by
 obtain ⟨V,S,r⟩:=S
 have k:∀a o,h.get? a=some o->a≠L->h'.get? a=some o:=fun a o e q=>(N (a,o) (VX.mpr ⟨e,q,by simp⟩)).1
 exact⟨V,⟨S.st,fun a oa ea=>k a oa (S.keep _ _ ea) (by rintro rfl;rw[S.bl] at ea;cases ea),fun a oa ea=>k a oa (S.YW a oa ea) (by rintro rfl;rw[S.vl] at ea;cases ea),F.ns,S.vb,S.vl,S.bl⟩,r⟩
theorem yq {a b:Int}{t u:Tok}{Q:h_->Heap->Prop}(S:SS hS B L m cs h) (hh:A.handled=none) (g:∀t h',SS hS B L m cs h'->Q (.int (max a b) t) h'):W prog w A (call (.builtin "max") [.int a t,.int b u]) Q X h:=fun s Q' E hs k kx=>by
 subst hs
 refine max_two_N hh S.fr (WL s.heap L []) fun h' tk F N=>k _ h' tk ?_
 have e:(if b>a then b else a)=max a b:=by split<;>omega
 rw[e];exact g _ h' (S.C8 F N)
theorem yp {a b:Int}{t u:Tok}{Q:h_->Heap->Prop}(S:SS hS B L m cs h) (hh:A.handled=none) (g:∀t h',SS hS B L m cs h'->Q (.int (min a b) t) h'):W prog w A (call (.builtin "min") [.int a t,.int b u]) Q X h:=fun s Q' E hs k kx=>by
 subst hs
 refine min_two_N hh S.fr (WL s.heap L []) fun h' tk F N=>k _ h' tk ?_
 have e:(if b<a then b else a)=min a b:=by split<;>omega
 rw[e];exact g _ h' (S.C8 F N)
theorem Jo {n:Int}{t:Tok}{Q:h_->Heap->Prop}(S:SS hS B L m cs h) (g:∀r h',SS hS B L m (Qg r 0 n 1::cs) h'->Q (.ref r) h'):W prog w A (call (.type "range") [.int n t]) Q X h:=fun s Q' E hs k kx=>by
 subst hs
 exact call_range_1 (k _ _ _ (g _ _ (S.Xg rfl ⟨_,_,_,Z6 _ _ _⟩)))
theorem Jm {a b:Int}{t u:Tok}{Q:h_->Heap->Prop}(S:SS hS B L m cs h) (g:∀r h',SS hS B L m (Qg r a b 1::cs) h'->Q (.ref r) h'):W prog w A (call (.type "range") [.int a t,.int b u]) Q X h:=fun s Q' E hs k kx=>by
 subst hs
 exact call_range_2 (k _ _ _ (g _ _ (S.Xg rfl ⟨_,_,_,Z6 _ _ _⟩)))
theorem Qe (a b:Int):dW a b 1=max 0 (b - a):=by
 unfold dW
 rw[if_pos (by decide),Int.ediv_one]
 split<;>omega
theorem Ut (a b:Int):dW a b (-1)=max 0 (a - b):=by
 unfold dW
 rw[if_neg (by decide)]
 have:(-(-1):Int)=1:=by decide
 rw[this,Int.ediv_one]
 split<;>omega
theorem zj {x:Int}(h: -2000000<=x/\x<=2000000): -2 ^ 63<=x/\x<2 ^ 63:=⟨gf (by decide) h.1,Int.lt_of_le_of_lt h.2 (by decide)⟩
theorem C7 {x:Int}(h:x<=2000000): -2000000<=max 0 x/\max 0 x<=2000000:=⟨gf (by decide) (Int.le_max_left 0 x),Int.max_le.mpr ⟨by decide,h⟩⟩
theorem QJ (x:Int):(max 0 x).toNat=x.toNat:=by rw[Int.max_comm,<-Int.ofNat_toNat];rfl
theorem TA {x:Int}(h:x.natAbs<=1000000): -1000000<=x/\x<=1000000:=by omega
theorem m2 {x:Int}(h: -1000000<=x/\x<=1000000): -2000000<=x/\x<=2000000:=⟨gf (by decide) h.1,gf h.2 (by decide)⟩
theorem Jl {a b:Int}(h: -1000000<=a/\a<=1000000/\ -1000000<=b/\b<=1000000):bW a b 1=true:=by
 unfold bW af
 rw[Qe]
 simp only[bD,decide_eq_true_eq,bE,beq_iff_eq,show (1:Int)>0 by decide,if_true]
 have hb:=zj (m2 h.2.2)
 exact⟨⟨⟨⟨zj (m2 ⟨h.1,h.2.1⟩),hb⟩,by decide,by decide⟩,zj (C7 (by omega))⟩,.inr (by rw[show b+(1 - 1)=b from cj b];exact hb)⟩
theorem small_down {a b:Int}(h: -1000000<=a/\a<=1000000/\ -1000000<=b/\b<=1000000):bW a b (-1)=true:=by
 unfold bW af
 rw[Ut]
 simp only[bD,decide_eq_true_eq,bE,beq_iff_eq,show ¬(-1:Int)>0 by decide,if_false]
 have hb:=zj (m2 h.2.2)
 exact⟨⟨⟨⟨zj (m2 ⟨h.1,h.2.1⟩),hb⟩,by decide,by decide⟩,zj (C7 (by omega))⟩,.inr (by rw[show b+(-1+1)=b from cj b];exact hb)⟩
end
def lEq:List Nat->List Nat->Bool
 | [],[]=>true
 |a::l,b::r=>match gZ a b with|true=>lEq l r|false=>false
 |_,_=>false
theorem lEq_iff:∀{a b:List Nat},lEq a b=true↔a=b
 | [],[]=>by simp[lEq]
 | [],_::_=>by simp[lEq]
 |_::_,[]=>by simp[lEq]
 |a::l,b::r=>by
  unfold lEq
  cases h:gZ a b with
  |true=>have:=e_ h;subst this;simp[lEq_iff]
  |false=>
   have:a≠b:=fun e=>by subst e;rw[c_] at h;cases h
   simp[this]
def sq (a b:Str):Bool:=lEq a.cps.toList b.cps.toList
theorem Zv {a b:Str}:sq a b=true↔a=b:=by
 unfold sq
 rw[lEq_iff]
 constructor
 ·intro h;cases a;cases b;simp only at h;congr 1;exact dU.mp h
 ·intro h;rw[h]
def lk {α:Type}:List (Str×α)->Str->Option α
 | [],_=>none
 |(y,v)::r,x=>match sq y x with|true=>some v|false=>lk r x
def put {α:Type}:List (Str×α)->Str->α->List (Str×α)
 | [],x,v=> [(x,v)]
 |(y,u)::r,x,v=>match sq y x with|true=>(y,v)::r|false=>(y,u)::put r x v
theorem Qd {α:Type}{x:Str}{v:α}:∀{l:List (Str×α)}{y:Str},lk (put l x v) y=if y=x then some v else lk l y
 | [],y=>by
  unfold put lk lk
  cases h:sq x y with
  |true=>rw[Zv.mp h,if_pos rfl]
  |false=>rw[if_neg (fun e=>by rw[e,Zv.mpr rfl] at h;cases h)]
 |(z,u)::r,y=>by
  unfold put
  cases hz:sq z x with
  |true=>
   have:=Zv.mp hz;subst this
   unfold lk
   cases h:sq z y with
   |true=>rw[Zv.mp h,if_pos rfl]
   |false=>rw[if_neg (fun e=>by rw[e,Zv.mpr rfl] at h;cases h)]
  |false=>
   show lk ((z,u)::put r x v) y=_
   unfold lk
   cases h:sq z y with
   |true=>
    have:=Zv.mp h;subst this
    rw[if_neg (fun e=>by rw[e,Zv.mpr rfl] at hz;cases hz)]
   |false=>exact Qd
theorem Qc {α:Type}{x:Str}{v:α}:∀{l:List (Str×α)},(put l x v).length=if (lk l x).isSome then l.length else l.length+1
 | []=>rfl
 |(z,u)::r=>by
  unfold put lk
  cases hz:sq z x with
  |true=>rfl
  |false=>
   show (put r x v).length+1=if (lk r x).isSome then _ else _
   rw[Qc];split<;>rfl
inductive D where
 |none|bool (b:Bool)|int (i:Int)|str (s:Str)|tup (l:List D)
inductive BI where
 |len|abs|min|max|ord|chr|range|list|tuple|str|isinstance|enumerate|zip|reversed|sorted|all
 |Yi|Fp|SY|SX|lextend|K5|Qa|UQ
def C6:BI->h_
 | .len=> .builtin "len" | .abs=> .builtin "abs" | .min=> .builtin "min" | .max=> .builtin "max" | .ord=> .builtin "ord" | .chr=> .builtin "chr"
 | .range=> .type "range" | .list=> .type "list" | .tuple=> .type "tuple" | .str=> .type "str" | .isinstance=> .builtin "isinstance"
 | .enumerate=> .type "enumerate" | .zip=> .type "zip" | .reversed=> .type "reversed" | .sorted=> .builtin "sorted" | .all=> .builtin "all"
 | .lextend=> .builtin "list.extend" | .Yi=> .builtin "list.append" | .Fp=> .builtin "list.pop" | .SY=> .builtin "list.insert" | .SX=> .builtin "list.remove" | .K5=> .builtin "dict.get" | .Qa=> .builtin "str.lower" | .UQ=> .builtin "str.join"
inductive AV where
 |d (x:D)|loc (n:Nat)|Z8 (v:h_)|bi (b:BI)|K4 (a b s:Int)|Xr (lo hi:Option Int)|any|YV (ps:List Str) (body:Expr) (sc:gQ) (cl:List (Str×Nat))
mutual
noncomputable def Y8 (B:Part):D->h_->Prop
 | .none,v=>v= .none
 | .bool b,v=>v= .bool b
 | .int i,v=>∃t,v= .int i t
 | .str s,v=>∃t,v= .str s t
 | .tup l,v=>∃a vs,v= .ref a/\B a=some (WZ vs)/\ZE B l vs
noncomputable def ZE (B:Part):List D->List h_->Prop
 | [],vs=>vs= []
 |x::l,vs=>∃v r,vs=v::r/\Y8 B x v/\ZE B l r
end
mutual
theorem Y8.mono {B B':Part}(k:Le B B'):∀{x:D}{v:h_},Y8 B x v->Y8 B' x v
 | .none,_,h=>by unfold Y8 at*;exact h
 | .bool _,_,h=>by unfold Y8 at*;exact h
 | .int _,_,h=>by unfold Y8 at*;exact h
 | .str _,_,h=>by unfold Y8 at*;exact h
 | .tup l,_,h=>by
  unfold Y8 at*
  obtain ⟨a,vs,e,b,r⟩:=h
  exact⟨a,vs,e,k _ _ b,ZE.mono k r⟩
theorem ZE.mono {B B':Part}(k:Le B B'):∀{l:List D}{vs:List h_},ZE B l vs->ZE B' l vs
 | [],_,h=>by unfold ZE at*;exact h
 |x::l,_,h=>by
  unfold ZE at*
  obtain ⟨v,r,e,a,b⟩:=h
  exact⟨v,r,e,Y8.mono k a,ZE.mono k b⟩
end
def Sp (a b c:Int) (t u v:Tok):Obj:={cls:= .type "range",dict:=none,data:= .fields #[.int a t,.int b u,.int c v],slots:= #[]}
def P_ (vl vu:h_):Obj:={cls:= .type "slice",data:= .fields #[vl,vu,.none]}
def Tz (B:Part) (cd:h_) (q:Str):Prop:=∃c o vs t,cd= .ref c/\B c=some o/\o.data= .fields vs/\vs[1]?=some (.str q t)
theorem Tz.mono {B B':Part}(k:Le B B') {cd:h_}{q:Str}:Tz B cd q->Tz B' cd q:=fun⟨c,o,vs,t,e,b,r⟩=>⟨c,o,vs,t,e,k _ _ b,r⟩
def Ys (ρ:List Addr):List (Str×Nat)->List (Str×Addr)->Prop
 | [],[]=>True
 |x::l,y::r=>x.1=y.1/\ρ[x.2]?=some y.2/\Ys ρ l r
 |_,_=>False
theorem Ys.imp {ρ Yy:List Addr}(k:∀(n:Nat) (a:Addr),ρ[n]?=some a->Yy[n]?=some a):∀{l:List (Str×Nat)}{r:List (Str×Addr)},Ys ρ l r->Ys Yy l r
 | [],[],_=>trivial
 |_::_,_::_,⟨a,b,c⟩=>⟨a,k _ _ b,Ys.imp k c⟩
 | [],_::_,h=>h.elim
 |_::_,[],h=>h.elim
def Fo (B:Part) (ps:List Str) (body:Expr) (sc:gQ) (a:Addr) (fd:fL):Prop:=
 B a=some {cls:= .type "function",data:= .func fd}/\fd.body= .expr body/\fd.scope=sc/\fd.globals=mainGlobals/\fd.builtins=builtinsNs/\Tz B fd.code fd.qualname/\∀vs:List h_,vs.length=ps.length->bindArgs fd ⟨vs,[]⟩=pure (gH ps vs)
theorem Fo.mono {B B':Part}(k:Le B B') {ps:List Str}{body:Expr}{sc:gQ}{a:Addr}{fd:fL}:Fo B ps body sc a fd->Fo B' ps body sc a fd:=fun⟨e,b,c,d,f,g,r⟩=>⟨k _ _ e,b,c,d,f,g.mono k,r⟩
def Rep (ρ:List Addr) (B:Part):AV->h_->Prop
 | .d x,v=>Y8 B x v
 | .loc n,v=>∃a,ρ[n]?=some a/\v= .ref a
 | .Z8 u,v=>v=u/\dM u=true
 | .bi b,v=>v=C6 b
 | .K4 a b c,v=>∃r t u w,v= .ref r/\B r=some (Sp a b c t u w)
 | .Xr lo hi,v=>∃r vl vu,v= .ref r/\IsPart vl lo/\IsPart vu hi/\B r=some (P_ vl vu)
 | .any,v=>dM v=true
 | .YV ps body sc cl,v=>∃a fd,v= .ref a/\Fo B ps body sc a fd/\Ys ρ cl fd.closure
def ZT (ρ:List Addr) (B:Part):List AV->List h_->Prop
 | [],vs=>vs= []
 |x::l,vs=>∃v r,vs=v::r/\Rep ρ B x v/\ZT ρ B l r
theorem Y7 {ρ Yy:List Addr}(h:ρ<+:Yy) {n:Nat}{a:Addr}(e:ρ[n]?=some a):Yy[n]?=some a:=by
 obtain ⟨t,rfl⟩:=h
 rw[c9 (fD.mp e).1];exact e
theorem Rep.mono {ρ Yy:List Addr}{B B':Part}(XD:ρ<+:Yy) (k:Le B B'):∀{x:AV}{v:h_},Rep ρ B x v->Rep Yy B' x v
 | .d _,_,h=>Y8.mono k h
 | .loc _,_,⟨a,e,h⟩=>⟨a,Y7 XD e,h⟩
 | .Z8 _,_,h=>h
 | .bi _,_,h=>h
 | .K4 ..,_,⟨r,t,u,w,e,h⟩=>⟨r,t,u,w,e,k _ _ h⟩
 | .Xr ..,_,⟨r,t,u,e,p,q,h⟩=>⟨r,t,u,e,p,q,k _ _ h⟩
 | .any,_,h=>h
 | .YV ..,_,⟨a,fd,e,h,c⟩=>⟨a,fd,e,h.mono k,c.imp fun n x=>Y7 XD⟩
theorem ZT.mono {ρ Yy:List Addr}{B B':Part}(XD:ρ<+:Yy) (k:Le B B'):∀{l:List AV}{vs:List h_},ZT ρ B l vs->ZT Yy B' l vs
 | [],_,h=>h
 |_::_,_,⟨v,r,e,a,b⟩=>⟨v,r,e,a.mono XD k,ZT.mono XD k b⟩
theorem Y8.handed {B:Part}:∀{x:D}{v:h_},Y8 B x v->dM v=true
 | .none,_,h=>by unfold Y8 at h;rw[h];rfl
 | .bool _,_,h=>by unfold Y8 at h;rw[h];rfl
 | .int _,_,h=>by unfold Y8 at h;obtain ⟨t,h⟩:=h;rw[h];rfl
 | .str _,_,h=>by unfold Y8 at h;obtain ⟨t,h⟩:=h;rw[h];rfl
 | .tup _,_,h=>by unfold Y8 at h;obtain ⟨a,vs,h,_⟩:=h;rw[h];rfl
theorem Rep.handed {ρ:List Addr}{B:Part}:∀{x:AV}{v:h_},Rep ρ B x v->dM v=true
 | .d _,_,h=>Y8.handed h
 | .loc _,_,⟨a,_,h⟩=>by rw[h];rfl
 | .Z8 _,_,h=>by rw[h.1];exact h.2
 | .bi b,_,h=>by rw[show _=_ from h];cases b<;>rfl
 | .K4 ..,_,⟨r,t,u,w,e,h⟩=>by rw[e];rfl
 | .Xr ..,_,⟨r,t,u,e,p,q,h⟩=>by rw[e];rfl
 | .any,_,h=>h
 | .YV ..,_,⟨a,fd,e,_⟩=>by rw[e];rfl
theorem ZE.length {B:Part}:∀{l:List D}{vs:List h_},ZE B l vs->vs.length=l.length
 | [],_,h=>by unfold ZE at h;rw[h];rfl
 |_::l,_,h=>by unfold ZE at h;obtain ⟨v,r,e,_,b⟩:=h;rw[e];simp[ZE.length b]
theorem ZT.length {ρ:List Addr}{B:Part}:∀{l:List AV}{vs:List h_},ZT ρ B l vs->vs.length=l.length
 | [],_,h=>by rw[show _=_ from h];rfl
 |_::l,_,⟨v,r,e,_,b⟩=>by rw[e];simp[ZT.length b]
theorem ZE.get {B:Part}:∀{l:List D}{vs:List h_}{i:Nat}{x:D},ZE B l vs->l[i]?=some x->∃v,vs[i]?=some v/\Y8 B x v
 | [],_,_,_,_,e=>by simp at e
 |y::l,_,0,x,h,e=>by
  unfold ZE at h;obtain ⟨v,r,rfl,a,b⟩:=h
  simp at e;subst e;exact⟨v,rfl,a⟩
 |y::l,_,i+1,x,h,e=>by
  unfold ZE at h;obtain ⟨v,r,rfl,a,b⟩:=h
  simpa using ZE.get b (by simpa using e)
theorem ZT.get {ρ:List Addr}{B:Part}:∀{l:List AV}{vs:List h_}{i:Nat}{x:AV},ZT ρ B l vs->l[i]?=some x->∃v,vs[i]?=some v/\Rep ρ B x v
 | [],_,_,_,_,e=>by simp at e
 |y::l,_,0,x,⟨v,r,e',a,b⟩,e=>by subst e';simp at e;subst e;exact⟨v,rfl,a⟩
 |y::l,_,i+1,x,⟨v,r,e',a,b⟩,e=>by subst e';simpa using ZT.get b (by simpa using e)
theorem ZT.append {ρ:List Addr}{B:Part}{l':List AV}{ws:List h_}(h':ZT ρ B l' ws):∀{l:List AV}{vs:List h_},ZT ρ B l vs->ZT ρ B (l++l') (vs++ws)
 | [],_,h=>by rw[show _=_ from h];exact h'
 |x::l,_,⟨v,r,e,a,b⟩=>by subst e;exact⟨v,r++ws,rfl,a,ZT.append h' b⟩
theorem ZT.cons {ρ:List Addr}{B:Part}{x:AV}{l:List AV}{v:h_}{vs:List h_}(a:Rep ρ B x v) (b:ZT ρ B l vs):ZT ρ B (x::l) (v::vs):=⟨v,vs,rfl,a,b⟩
theorem ZT.nil {ρ:List Addr}{B:Part}:ZT ρ B [] []:=rfl
inductive AO where
 |gone|inst (C:Addr) (fs:List (Str×AV))|list (l:List AV)|Z_ (l:List Int)|cell (v:Option AV)
 |dict (l:List (Int×AV))|lit (n i:Nat)|Vm (n i:Nat)|en (n i:Nat)|zp (els:List (AV×AV))|mb (C:Addr) (x:Str) (l:List AV)|tab (P:Addr) (q:Str)|it (tup:Bool) (els:List AV)|X7 (P:Addr->Part->Prop)
def Jk {α:Type}:List (Int×α)->Int->Option α
 | [],_=>none
 |(y,v)::r,x=>match decide (y=x) with|true=>some v|false=>Jk r x
def K2 {α:Type}:List (Int×α)->Int->α->List (Int×α)
 | [],x,v=> [(x,v)]
 |(y,u)::r,x,v=>match decide (y=x) with|true=>(y,v)::r|false=>(y,u)::K2 r x v
def OW (ρ:List Addr) (B:Part):Option AV->Option h_->Prop
 |none,u=>u=none
 |some x,u=>∃v,u=some v/\Rep ρ B x v
theorem OW.mono {ρ Yy:List Addr}{B B':Part}(XD:ρ<+:Yy) (k:Le B B'):∀{x:Option AV}{u:Option h_},OW ρ B x u->OW Yy B' x u
 |none,_,h=>h
 |some _,_,⟨v,a,b⟩=>⟨v,a,b.mono XD k⟩
def JM (ρ:List Addr) (B:Part) (fs:List (Str×AV)) (f:Str->Option h_):Prop:=∀x,OW ρ B (lk fs x) (f x)
theorem JM.mono {ρ Yy:List Addr}{B B':Part}(XD:ρ<+:Yy) (k:Le B B') {fs:List (Str×AV)}{f:Str->Option h_}(h:JM ρ B fs f):JM Yy B' fs f:=fun x=>(h x).mono XD k
def BC (d:Addr) (kvs:List (Int×h_)):Part->Prop:=fun V=>∃o,V d=some o/\∀(p:gP) (w:g8) (h:Heap),h.get? d=some o->h.DictOf (fh p w) d kvs
def Q_ (ρ:List Addr) (B:Part):List (Int×AV)->List (Int×h_)->Prop
 | [],kvs=>kvs= []
 |(k,a)::l,kvs=>∃v r,kvs=(k,v)::r/\Rep ρ B a v/\Q_ ρ B l r
theorem Q_.mono {ρ Yy:List Addr}{B B':Part}(XD:ρ<+:Yy) (k:Le B B'):∀{l:List (Int×AV)}{kvs:List (Int×h_)},Q_ ρ B l kvs->Q_ Yy B' l kvs
 | [],_,h=>h
 |(_,_)::_,_,⟨v,r,e,a,b⟩=>⟨v,r,e,a.mono XD k,Q_.mono XD k b⟩
inductive So (ρ:List Addr) (a:Addr) (n:Nat) (P:Heap->Addr->Prop) (V:Part):Prop
 |mk (o:Obj) (l:Addr) (e:V a=some o) (x:ρ[n]?=some l) (y:l≠a) (z:∀h:Heap,h.get? a=some o->P h l)
inductive kG (ρ:List Addr) (a:Addr) (n i:Nat) (V:Part):Prop
 |mk (it l:Addr) (x:ρ[n]?=some l) (n1:a≠it) (n2:l≠a) (n3:l≠it) (v1:V a≠none) (v2:V it≠none) (v3:∀b,V b≠none->b=a\/b=it) (z:∀h:Heap,(∀b o,V b=some o->h.get? b=some o)->(∃old,IsEnum h a it i old)/\h.IsListIter it l i)
inductive kF (ρ:List Addr) (B:Part) (a:Addr) (els:List (AV×AV)) (V:Part):Prop
 |mk (fp wr:List Addr) (n:Nat) (Pt:Nat->Array h_->Prop) (St:Nat->Heap->Prop) (Mid:Nat->Addr->Heap->Prop) (i:Nat) (x:kJ fp St i V) (y:a∈fp) (z:∀(prog:gP) (w:g8) (A:gY),A.handled=none->WalksU prog w A a fp wr n Pt St Mid) (u:∀i h,St i h->∀b∈fp,∃o,h.get? b=some o)
  (v:i+els.length=n) (r:∀j vals e,els[j]?=some e->Pt (i+j) vals->ZT ρ B [e.1,e.2] vals.toList)
inductive kD (ρ:List Addr) (B:Part) (a C:Addr) (x:Str) (l:List AV) (V:Part):Prop
 |mk (sp:Addr) (vs:List h_) (V1 V2:Part) (d:∀b,V1 b≠none->V2 b=none) (l1:Le V1 V) (l2:Le V2 V) (r:ZT ρ B l vs) (i:VW a C 1 (fun y=>if y=x then some (.ref sp) else none) V1) (s:V9 sp vs V2)
inductive rG (ρ:List Addr) (B:Part) (a:Addr) (tup:Bool) (els:List AV) (V:Part):Prop
 |mk (o:Obj) (fp:List Addr) (n:Nat) (P:Nat->h_->Prop) (St:Nat->Heap->Prop) (i:Nat) (e:V a=some o) (m:a∈fp) (x:∀(prog:gP) (w:g8) (A:gY),A.handled=none->Walks prog w A a fp [a] n P St)
  (y:∀b∈fp,b≠a->∃ob,B b=some ob) (z:∀h:Heap,h.get? a=some o->(∀b ob,B b=some ob->h.get? b=some ob)->St i h) (u:∀j h,St j h->∃o,h.get? a=some o) (v:i+els.length=n)
  (g:tup=true->∀(prog:gP) (w:g8) (A:gY) (E:h_->g7->Prop) (t:Expr) (v:h_) (Q:Unit->g7->Prop) (s:g7) (j:Nat),St j s.heap->Q () s->gW (gO prog w) A (bV t (.ref a) v) Q E s)
  (r:∀j v e,els[j]?=some e->P (i+j) v->Rep ρ B e v)
inductive rF (B:Part) (a P:Addr) (q:Str) (V:Part):Prop
 |mk (e:a=P) (ps:Array h_) (x:V a=some (gC ps)) (y:TriplesOk ps.toList) (z:∀pos cv,c8 pos ps.toList=some cv->Tz B cv q)
def Y3 (ρ:List Addr) (B:Part) (a:Addr):AO->Part->Prop
 | .gone=>kH
 | .inst C fs=>fun V=>∃f,JM ρ B fs f/\VW a C fs.length f V
 | .list l=>fun V=>∃vs,ZT ρ B l vs/\V9 a vs V
 | .Z_ l=>fun V=>∃vs,ZE B (l.map .int) vs/\V9 a vs V
 | .cell none=>Vg a none
 | .cell (some x)=>fun V=>∃v,Rep ρ B x v/\Vg a (some v) V
 | .dict l=>fun V=>∃kvs,Q_ ρ B l kvs/\BC a kvs V
 | .lit n i=>So ρ a n fun h l=>h.IsListIter a l i
 | .Vm n i=>So ρ a n fun h l=>h.IsRevIter a l ((i:Int)- 1)
 | .en n i=>kG ρ a n i
 | .zp els=>kF ρ B a els
 | .mb C x l=>kD ρ B a C x l
 | .tab P q=>rF B a P q
 | .it tup els=>rG ρ B a tup els
 | .X7 P=>P a
theorem Y3.mono {ρ Yy:List Addr}{B B':Part}(XD:ρ<+:Yy) (k:Le B B') {a:Addr}{o:AO}{V:Part}(h:Y3 ρ B a o V):Y3 Yy B' a o V:=by
 have lit:∀{n P},So ρ a n P V->So Yy a n P V:=fun⟨o,l,e,x,y,z⟩=>⟨o,l,e,Y7 XD x,y,z⟩
 cases o with
 |inst=>exact let ⟨f,x,y⟩:=h;⟨f,x.mono XD k,y⟩
 |list=>exact let ⟨f,x,y⟩:=h;⟨f,x.mono XD k,y⟩
 |Z_=>exact let ⟨f,x,y⟩:=h;⟨f,x.mono k,y⟩
 |cell c=>
  cases c with
  |none=>exact h
  |some=>exact let ⟨f,x,y⟩:=h;⟨f,x.mono XD k,y⟩
 |dict=>exact let ⟨f,x,y⟩:=h;⟨f,x.mono XD k,y⟩
 |lit=>exact lit h
 |Vm=>exact lit h
 |en=>obtain ⟨it,l,x,n1,n2,n3,v1,v2,v3,z⟩:=h;exact⟨it,l,Y7 XD x,n1,n2,n3,v1,v2,v3,z⟩
 |zp=>obtain ⟨fp,wr,n,Pt,St,Mid,i,x,y,z,u,v,r⟩:=h;exact⟨fp,wr,n,Pt,St,Mid,i,x,y,z,u,v,fun j vals e q p=>(r j vals e q p).mono XD k⟩
 |mb=>obtain ⟨sp,vs,V1,V2,d,l1,l2,r,x,s⟩:=h;exact⟨sp,vs,V1,V2,d,l1,l2,r.mono XD k,x,s⟩
 |tab=>obtain ⟨e,ps,x,y,z⟩:=h;exact⟨e,ps,x,y,fun pos cv q=>(z pos cv q).mono k⟩
 |it=>
  obtain ⟨o,fp,n,P,St,i,e,m,x,y,z,u,v,g,r⟩:=h
  exact⟨o,fp,n,P,St,i,e,m,x,fun b hb q=>let ⟨ob,e'⟩:=y b hb q;⟨ob,k _ _ e'⟩,fun h a b=>z h a fun b' ob e'=>b b' ob (k _ _ e'),u,v,g,fun j w e' q p=>(r j w e' q p).mono XD k⟩
 |_=>exact h
def parts (B:Part) (ρ:List Addr):List Addr->List AO->List (Part->Prop)
 |a::r,o::H=>Y3 ρ B a o::parts B ρ r H
 |_,_=> []
def Nm (L:Addr) (m:Str->Option h_):Part->Prop:=fun V=>∃o es ep,V L=some o/\o.data= .dict es ep/\StrKeys es/\∀name,fH es name=m name
inductive Nl where
 |NC (L:Addr) (m:Str->Option h_)|hid (P:Part->Prop)
abbrev Frs:=List Nl
def Nl.den:Nl->Part->Prop
 | .NC L m=>Nm L m
 | .hid P=>P
def frames (fs:Frs):List (Part->Prop):=fs.map Nl.den
def Sn:Frs->List Addr
 | []=> []
 | .NC L _::r=>L::Sn r
 | .hid _::r=>Sn r
theorem Z0.Nk {F:List (Part->Prop)}{B B':Part}{ρ Yy:List Addr}(k:∀a o V,Y3 ρ B a o V->Y3 Yy B' a o V):∀(r:List Addr) (H:List AO) {V:Part},Z0 (parts B ρ r H++F) V->Z0 (parts B' Yy r H++F) V
 | [],_,_,h=>by unfold parts at*;exact h
 |_::_,[],_,h=>by unfold parts at*;exact h
 |a::r,o::H,_,⟨V1,V2,d,l1,l2,p,q⟩=>⟨V1,V2,d,l1,l2,k a o _ p,Z0.Nk k r H q⟩
theorem XM {F:List (Part->Prop)}{B B':Part}{ρ Yy:List Addr}(XD:ρ<+:Yy) (k:Le B B') {r:List Addr}{H:List AO}{V:Part}(h:Z0 (parts B ρ r H++F) V):Z0 (parts B' Yy r H++F) V:=
 Z0.Nk (fun _ _ _=>Y3.mono XD k) r H h
theorem Z0.YK {P:Part->Prop}:∀{pre post:List (Part->Prop)}{V:Part},Z0 (pre++P::post) V->Z0 (P::(pre++post)) V
 | [],_,_,h=>h
 |Q::pre,post,V,h=>by
  obtain ⟨V1,V2,d,l1,l2,p,q⟩:=h
  exact Z0.swap ⟨V1,V2,d,l1,l2,p,Z0.YK q⟩
theorem Z0.Yo {P:Part->Prop}:∀{pre post:List (Part->Prop)}{V:Part},Z0 (P::(pre++post)) V->Z0 (pre++P::post) V
 | [],_,_,h=>h
 |Q::pre,post,V,h=>Z0.map (fun _ x=>Z0.Yo x) (Z0.swap h)
theorem YM {B:Part}{ρ:List Addr}:∀{r:List Addr}{H:List AO}{i:Nat}{o:AO},r.length=H.length->H[i]?=some o->
  ∃a pre post,r[i]?=some a/\parts B ρ r H=pre++Y3 ρ B a o::post/\∀o',parts B ρ r (H.set i o')=pre++Y3 ρ B a o'::post
 | [],[],_,_,_,e=>by simp at e
 | [],_::_,_,_,e,_=>by simp at e
 |_::_,[],_,_,e,_=>by simp at e
 |a::r,x::H,0,o,_,e=>by
  simp at e;subst e
  exact⟨a,[],parts B ρ r H,rfl,rfl,fun _=>rfl⟩
 |a::r,x::H,i+1,o,hl,e=>by
  obtain ⟨b,pre,post,h1,h2,h3⟩:=YM (B:=B) (ρ:=ρ) (r:=r) (H:=H) (i:=i) (o:=o) (by simpa using hl) (by simpa using e)
  refine⟨b,Y3 ρ B a x::pre,post,by simpa using h1,?_,fun o'=> ?_⟩
  ·unfold parts;rw[h2];rfl
  ·rw[List.set_cons_succ];unfold parts;rw[h3];rfl
theorem X6 {B:Part}{ρ:List Addr}:∀{r:List Addr}{H:List AO}{a:Addr}{o:AO},r.length=H.length->parts B ρ (r++ [a]) (H++ [o])=parts B ρ r H++ [Y3 ρ B a o]
 | [],[],_,_,_=>rfl
 | [],_::_,_,_,e=>by simp at e
 |_::_,[],_,_,e=>by simp at e
 |a::r,x::H,b,o,e=>by
  show Y3 ρ B a x::parts B ρ (r++ [b]) (H++ [o])=Y3 ρ B a x::(parts B ρ r H++ [_])
  rw[X6 (by simpa using e)]
structure P9 (hS:Heap) (B:Part) (L:Addr) (m:Str->Option h_) (ρ:List Addr) (H:List AO) (fs:Frs) (h:Heap):Prop where
 len:ρ.length=H.length
 ss:SS hS B L m (parts B ρ ρ H++frames fs) h
section
variable {hS h h':Heap}{B B':Part}{L:Addr}{m m':Str->Option h_}{ρ:List Addr}{H:List AO}{fs:Frs}
theorem P9.at (R:P9 hS B L m ρ H fs h) {i:Nat}{o:AO}(hi:H[i]?=some o):∃a rest,ρ[i]?=some a/\SS hS B L m (Y3 ρ B a o::rest) h/\
  (∀o' V,Z0 (Y3 ρ B a o'::rest) V->Z0 (parts B ρ ρ (H.set i o')++frames fs) V)/\∀o' m' h',SS hS B L m' (Y3 ρ B a o'::rest) h'->P9 hS B L m' ρ (H.set i o') fs h':=by
 obtain ⟨a,pre,post,h1,h2,h3⟩:=YM (B:=B) (ρ:=ρ) R.len hi
 have key:∀o' V,Z0 (Y3 ρ B a o'::(pre++(post++frames fs))) V->Z0 (parts B ρ ρ (H.set i o')++frames fs) V:=fun o' V hq=>by
  rw[h3,gG];exact Z0.Yo hq
 refine⟨a,pre++(post++frames fs),h1,R.ss.YT fun V hV=> ?_,key,fun o' m' h' S=>⟨by rw[c7];exact R.len,S.YT fun V=>key o' V⟩⟩
 rw[h2,gG] at hV;exact Z0.YK hV
theorem P9.same (R:P9 hS B L m ρ H fs h) {i:Nat}{o:AO}(hi:H[i]?=some o):H.set i o=H:=by
 obtain ⟨hlt,e⟩:=fD.mp hi
 rw[<-e];exact List.set_getElem_self hlt
theorem P9.push (hl:ρ.length=H.length) {a:Addr}{o:AO}(S:SS hS B L m (Y3 (ρ++ [a]) B a o::(parts B ρ ρ H++frames fs)) h):P9 hS B L m (ρ++ [a]) (H++ [o]) fs h:=by
 refine⟨by simp[hl],S.YT fun V hV=> ?_⟩
 rw[X6 hl,gG]
 refine Z0.Yo (Z0.map (fun V x=> ?_) hV)
 exact XM (fC _ _) Le.rfl x
theorem SS.freeze {a:Addr}{o:Obj}{cs:List (Part->Prop)}(S:SS hS B L m (At a o::cs) h):∃B',Le B B'/\B' a=some o/\SS hS B' L m cs h:=by
 obtain ⟨V,S,V1,V2,d,l1,l2,e,q⟩:=S
 have e':V1 a=some o:=e
 have eV:V a=some o:=l1 _ _ e'
 have bN:B a=none:=S.vb _ _ eV
 have nL:L≠a:=by rintro rfl;rw[S.vl] at eV;cases eV
 have n2:V2 a=none:=d a (by rw[e'];exact fun z=>nomatch z)
 refine⟨upd B a (some o),fun b ob hb=> ?_,Z6 _ _ _,V2,⟨fun b ob hb=> ?_,fun b ob hb=> ?_,fun b ob hb=>S.YW _ _ (l2 _ _ hb),S.loc,fun b ob hb=> ?_,Zr l2 S.vl,?_⟩,q⟩
 ·rw[Z2 (by rintro rfl;rw[bN] at hb;cases hb)];exact hb
 ·have:=S.st _ _ hb
  rw[Z2 (by rintro rfl;rw[bN] at this;cases this)];exact this
 ·by_cases q:b=a
  ·subst q;rw[Z6] at hb;cases hb;exact S.YW _ _ eV
  ·rw[Z2 q] at hb;exact S.keep _ _ hb
 ·rw[Z2 (by rintro rfl;rw[n2] at hb;cases hb)];exact S.vb _ _ (l2 _ _ hb)
 ·rw[Z2 nL];exact S.bl
end
theorem Vf {α:Type}{x:Str}:∀{l:List (Str×α)},l.lookup x=lk l x
 | []=>rfl
 |(y,v)::r=>by
  rw[dD]
  unfold lk
  cases h:sq y x with
  |true=>have:=Zv.mp h;subst this;simp
  |false=>
   have:(x==y)=false:=by
    have:x≠y:=fun e=>by subst e;rw[Zv.mpr rfl] at h;cases h
    simpa using this
   rw[this];exact Vf
structure Gm where
 prog:gP
 w:g8
 hS:Heap
 K:Frag
 Z:Su K hS
 sys:∃o,hS.get? sysModules=some o
structure Fm where
 sc:gQ
 cm:List (Str×Nat)
 cd:Option (Addr×Str)
inductive Zk where
 |next|brk|cont|ret (v:AV)
structure Wd where
 ρ:List Addr
 B:Part
def Wd.le (a b:Wd):Prop:=a.ρ<+:b.ρ/\Le a.B b.B
theorem Wd.le.rfl {a:Wd}:a.le a:=⟨cJ _,Le.rfl⟩
theorem Wd.le.trans {a b c:Wd}(x:a.le b) (y:b.le c):a.le c:=⟨x.1.trans y.1,x.2.trans y.2⟩
abbrev RV:Wd->AV->h_->Prop:=fun ω a v=>Rep ω.ρ ω.B a v
abbrev Xn:Wd->List AV->List h_->Prop:=fun ω a v=>ZT ω.ρ ω.B a v
abbrev RB:Wd->Bool->Bool->Prop:=fun _ a v=>v=a
abbrev RU:Wd->Unit->Unit->Prop:=fun _ _ _=>True
def RF:Wd->Zk->Flow->Prop
 |_,.next,f=>f= .next
 |_,.brk,f=>f= .brk
 |_,.cont,f=>f= .cont
 |ω,.ret a,f=>∃v,f= .ret v/\Rep ω.ρ ω.B a v
theorem RV.up {ω Zw:Wd}(l:ω.le Zw) {a:AV}{v:h_}(r:RV ω a v):RV Zw a v:=r.mono l.1 l.2
theorem Xn.up {ω Zw:Wd}(l:ω.le Zw) {a:List AV}{v:List h_}(r:Xn ω a v):Xn Zw a v:=ZT.mono l.1 l.2 r
inductive Gh where
 |t (l:Nat)|f (l:Nat)|k (l:Nat)|con (l:Nat) (r:AV) (H:List AO)|cut (l:Nat) (fl:Zk) (loc:List (Str×AV)) (H:List AO)|Jj (l:Nat) (r:AV) (H:List AO)
structure St where
 loc:List (Str×AV)
 hp:List AO
 os:List Gh
structure Wu (n:Nat) (A:gY) (L:Addr) (fs:Frs):Prop where
 rm:Rm n A
 fr:∃l,A.frames=some l/\∀env∈l,env.scope.kind= .function/\env.frame=some env.locals/\(env.locals=L\/env.locals∈Sn fs)
theorem Wu.hd {n:Nat}{A:gY}{L:Addr}{fs:Frs}(a:Wu n A L fs):A.handled=none:=a.rm.hd
structure Zb (Φ:Fm) (env:Env) (ρ:List Addr):Prop where
 sc:env.scope=Φ.sc
 kind:Φ.sc.kind= .function
 gl:env.globals=mainGlobals
 bl:env.builtins=builtinsNs
 cells:∀x i,lk Φ.cm x=some i->∃c,env.cells.lookup x=some c/\ρ[i]?=some c
 code:∀c q,Φ.cd=some (c,q)->env.code= .ref c/\env.qual=q
theorem Zb.mono {Φ:Fm}{env:Env}{ρ Yy:List Addr}(e:Zb Φ env ρ) (XD:ρ<+:Yy):Zb Φ env Yy:=
 ⟨e.sc,e.kind,e.gl,e.bl,fun x i h=>let ⟨c,a,b⟩:=e.cells x i h;⟨c,a,Y7 XD b⟩,e.code⟩
theorem Zb.up {Φ:Fm}{env:Env}{ω Zw:Wd}(e:Zb Φ env ω.ρ) (l:ω.le Zw):Zb Φ env Zw.ρ:=e.mono l.1
theorem Zb.kindOf {Φ:Fm}{env:Env}{ρ:List Addr}(e:Zb Φ env ρ) (x:Str):env.kindOf x=lk Φ.sc.names x:=by unfold Env.kindOf;rw[e.sc,Vf]
theorem Zb.kd {Φ:Fm}{env:Env}{ρ:List Addr}(e:Zb Φ env ρ):env.scope.kind= .function:=by rw[e.sc];exact e.kind
theorem Zb.XJ {Φ:Fm}{env:Env}{ρ:List Addr}(e:Zb Φ env ρ):(env.scope.kind== .class||(env.scope.kind== .module && env.locals !=env.globals))=false:=by rw[e.kd];rfl
def YS (ω:Wd) (l:List (Str×AV)) (m:Str->Option h_):Prop:=∀x a,lk l x=some a->∃v,m x=some v/\RV ω a v
theorem YS.up {ω Zw:Wd}(l:ω.le Zw) {x:List (Str×AV)}{m:Str->Option h_}(h:YS ω x m):YS Zw x m:=fun y a e=>
 let ⟨v,p,q⟩:=h y a e;⟨v,p,q.up l⟩
set_option tactic.hygienic true in
theorem YS.put {ω:Wd}{l:List (Str×AV)}{m:Str->Option h_}(h:YS ω l m) {x:Str}{a:AV}{v:h_}(r:RV ω a v):YS ω (Mine.put l x a) (upd m x (some v)):=fun y b e=>by
 rw[Qd] at e
 split at e
 ·rename_i q;cases e;subst q;exact⟨v,Z6 _ _ _,r⟩
 ·rename_i q;rw[Z2 q];exact h y b e
inductive rE (hS:Heap) (L:Addr) (ω:Wd) (loc:List (Str×AV)) (H:List AO) (fs:Frs) (h:Heap):Prop
 |mk (m:Str->Option h_) (l:YS ω loc m) (R:P9 hS ω.B L m ω.ρ H fs h)
def Rel (G:Gm) (L:Addr) (ω:Wd) (σ:St) (fs:Frs) (h:Heap):Prop:=rE G.hS L ω σ.loc σ.hp fs h
inductive PG {ι α:Type}(G:Gm) (RR:Wd->ι->α->Prop) (L:Addr) (fs:Frs) (ω:Wd) (K:ι->St->Prop) (v:α) (h':Heap):Prop
 |mk (a:ι) (ZH:St) (Zw:Wd) (k:K a ZH) (l:ω.le Zw) (R:Rel G L Zw ZH fs h') (r:RR Zw a v)
theorem PG.up {ι α:Type}{G:Gm}{RR:Wd->ι->α->Prop}{L:Addr}{fs:Frs}{ω ZR:Wd}{K:ι->St->Prop}{v:α}{h':Heap}(p:PG G RR L fs ZR K v h') (l:ω.le ZR):PG G RR L fs ω K v h':=
 let ⟨a,ZH,Zw,k,l',R,r⟩:=p;⟨a,ZH,Zw,k,l.trans l',R,r⟩
theorem PG.imp {ι α:Type}{G:Gm}{RR:Wd->ι->α->Prop}{L:Addr}{fs:Frs}{ω:Wd}{K K':ι->St->Prop}{v:α}{h':Heap}(p:PG G RR L fs ω K v h') (k:∀a σ,K a σ->K' a σ):PG G RR L fs ω K' v h':=
 let ⟨a,ZH,Zw,q,l',R,r⟩:=p;⟨a,ZH,Zw,k _ _ q,l',R,r⟩
theorem PG.no {ι α:Type}{G:Gm}{RR:Wd->ι->α->Prop}{L:Addr}{fs:Frs}{ω:Wd}{v:α}{h':Heap}{C:Prop}(p:PG G RR L fs ω (fun _ _=>False) v h'):C:=by
 cases p with
 |mk a ZH Zw k=>exact k.elim
abbrev XK:=AV->St->Prop
section
variable (G:Gm) (n:Nat) (Φ:Fm)
def Pt {ι α:Type}(RR:Wd->ι->α->Prop) (L:Addr) (fs:Frs) (ω:Wd) (t:Sem α) (σ:St) (K:ι->St->Prop) (X:XK):Prop:=
 ∀{{A:gY}} {{h:Heap}},Wu n A L fs->Rel G L ω σ fs h->W G.prog G.w A t (PG G RR L fs ω K) (PG G RV L fs ω X) h
def J {ι α:Type}(RR:Wd->ι->α->Prop) (t:Env->Sem α) (σ:St) (K:ι->St->Prop) (X:XK):Prop:=
 ∀{{env:Env}} {{ω:Wd}} {{fs:Frs}},Zb Φ env ω.ρ->Pt G n RR env.locals fs ω (t env) σ K X
abbrev Zd (e:Expr) (σ:St) (K:AV->St->Prop) (X:XK):Prop:=J G n Φ RV (eval e) σ K X
abbrev V5 (e:Expr) (σ:St) (K:Bool->St->Prop) (X:XK):Prop:=J G n Φ RB (fun env=>gc e env (eval e env)) σ K X
def SR (es:List Expr) (σ:St) (K:List AV->St->Prop) (X:XK):Prop:=∀pos,J G n Φ Xn (fun env=>spliced (gv pos (gF es env))) σ K X
abbrev We (s:Stmt) (σ:St) (K:Zk->St->Prop) (X:XK):Prop:=J G n Φ RF (exec s) σ K X
abbrev X0 (ss:List Stmt) (σ:St) (K:Zk->St->Prop) (X:XK):Prop:=J G n Φ RF (fY ss) σ K X
def Q9 {ι α:Type}(RR:Wd->ι->α->Prop) (t:h_->Sem α) (a:AV) (σ:St) (K:ι->St->Prop) (X:XK):Prop:=
 ∀{{L:Addr}} {{fs:Frs}} {{ω:Wd}} {{u:h_}},RV ω a u->Pt G n RR L fs ω (t u) σ K X
def Nj {ι α:Type}(RR:Wd->ι->α->Prop) (t:h_->h_->Sem α) (a b:AV) (σ:St) (K:ι->St->Prop) (X:XK):Prop:=
 ∀{{L:Addr}} {{fs:Frs}} {{ω:Wd}} {{u v:h_}},RV ω a u->RV ω b v->Pt G n RR L fs ω (t u v) σ K X
def tD {ι α:Type}(RR:Wd->ι->α->Prop) (t:List h_->Sem α) (as:List AV) (σ:St) (K:ι->St->Prop) (X:XK):Prop:=
 ∀{{L:Addr}} {{fs:Frs}} {{ω:Wd}} {{vs:List h_}},Xn ω as vs->Pt G n RR L fs ω (t vs) σ K X
def Ve (f:AV) (as:List AV) (σ:St) (K:AV->St->Prop) (X:XK):Prop:=
 ∀{{L:Addr}} {{fs:Frs}} {{ω:Wd}} {{fv:h_}} {{vs:List h_}},RV ω f fv->Xn ω as vs->Pt G n RV L fs ω (call fv vs) σ K X
def Rg (t:Expr) (a:AV) (σ:St) (K:St->Prop) (X:XK):Prop:=
 ∀{{env:Env}} {{ω:Wd}} {{fs:Frs}} {{v:h_}},Zb Φ env ω.ρ->RV ω a v->Pt G n RU env.locals fs ω (fJ t env v) σ (fun _=>K) X
end
section
variable {G:Gm}{n:Nat}{Φ:Fm}{σ Z4 ZW Zq ZH:St}{X:XK}
theorem Pt.imp {ι α:Type}{RR:Wd->ι->α->Prop}{L:Addr}{fs:Frs}{ω:Wd}{t:Sem α}{K K':ι->St->Prop}{X X':XK}(x:Pt G n RR L fs ω t σ K X) (k:∀a σ,K a σ->K' a σ) (kx:∀a σ,X a σ->X' a σ):Pt G n RR L fs ω t σ K' X':=
 fun _ _ hA R=>(x hA R).mono (fun _ _ p=>p.imp k) fun _ _ p=>p.imp kx
theorem J.imp {ι α:Type}{RR:Wd->ι->α->Prop}{t:Env->Sem α}{K K':ι->St->Prop}{X X':XK}(x:J G n Φ RR t σ K X) (k:∀a σ,K a σ->K' a σ) (kx:∀a σ,X a σ->X' a σ):J G n Φ RR t σ K' X':=
 fun _ _ _ he=>Pt.imp (x he) k kx
theorem Rel.here {ι α:Type}{RR:Wd->ι->α->Prop}{L:Addr}{fs:Frs}{ω:Wd}{a:ι}{v:α}{K:ι->St->Prop}{h:Heap}(R:Rel G L ω σ fs h) (r:RR ω a v) (k:K a σ):PG G RR L fs ω K v h:=⟨a,σ,ω,k,.rfl,R,r⟩
theorem SQ {k:Nat}{pos:Pos}{K:AV->St->Prop}:∀{c:Const}{x:D},(match c with| .none=>x= .none| .bool b=>x= .bool b| .int i=>x= .int i| .str s=>x= .str s|_=>False)->K (.d x) σ->Zd G n Φ (.Constant c k pos) σ K X
 | .none,_,e,q=>fun _ _ _ he _ _ hA R=>by subst e;exact BV (R.here (by unfold RV Rep Y8;rfl) q)
 | .bool b,_,e,q=>fun _ _ _ he _ _ hA R=>by subst e;exact BU (R.here (by unfold RV Rep Y8;rfl) q)
 | .int i,_,e,q=>fun _ _ _ he _ _ hA R=>by subst e;exact yF fun t=>R.here (by unfold RV Rep Y8;exact⟨t,rfl⟩) q
 | .str s,_,e,q=>fun _ _ _ he _ _ hA R=>by subst e;exact yE fun t=>R.here (by unfold RV Rep Y8;exact⟨t,rfl⟩) q
theorem Xf {x:Str}(h:sq x ("__debug__" :Str)=false):(x==("__debug__" :Str))=false:=by
 have:x≠("__debug__" :Str):=fun e=>by rw[Zv.mpr e] at h;cases h
 simpa using this
theorem Fl {x:Str}{pos:Pos}{a:AV}{K:AV->St->Prop}(hl:lk Φ.sc.names x=some .local) (ha:lk σ.loc x=some a) (hd:sq x ("__debug__" :Str)=false) (q:K a σ):Zd G n Φ (.Name x pos) σ K X:=fun env ω fs he A h hA R=>by
 obtain ⟨m,l,R'⟩:=id R
 obtain ⟨v,hv,r⟩:=l x a ha
 exact Fy R'.ss hv (R.here r q) he.kd rfl (by rw[he.kindOf];exact hl) (Xf hd)
theorem BA {x:Str}{pos:Pos}{i:Nat}{a:AV}{K:AV->St->Prop}(hl:lk Φ.sc.names x=some .cell\/lk Φ.sc.names x=some .free) (hi:lk Φ.cm x=some i) (ha:σ.hp[i]?=some (.cell (some a))) (hd:sq x ("__debug__" :Str)=false)
  (hn:sq x ("__classdict__" :Str)=false) (q:K a σ):Zd G n Φ (.Name x pos) σ K X:=fun env ω fs he A h hA R=>by
 obtain ⟨m,l,R'⟩:=id R
 obtain ⟨c,hc,XD⟩:=he.cells x i hi
 obtain ⟨c',rest,e1,S,_,_⟩:=R'.at ha
 obtain rfl:c'=c:=by rw[XD] at e1;exact(gj e1).symm
 obtain ⟨v,S⟩:=S.ex
 obtain ⟨r,S⟩:=S.fact
 refine BF S (R.here r q) hc he.kd ?_ (Xf hd) ?_
 ·rw[he.kindOf];rcases hl with e|e<;>rw[e]<;>rfl
 ·have:x≠("__classdict__" :Str):=fun e=>by rw[Zv.mpr e] at hn;cases hn
  simpa using this
def P8 (G:Gm) (x:Str) (a:AV):Prop:=∃v,(nsIn G.K mainGlobals x=some (some v)\/(nsIn G.K mainGlobals x=some none/\bootBuiltins x=some v/\x≠ "__name__"))/\∀B,(∀a o,G.hS.get? a=some o->B a=some o)->Rep [] B a v
theorem SS.yo {hS h:Heap}{B:Part}{L:Addr}{m:Str->Option h_}{cs:List (Part->Prop)}(S:SS hS B L m cs h):∀a o,hS.get? a=some o->B a=some o:=let ⟨_,S,_⟩:=S;S.st
theorem Ji {x:Str}{pos:Pos}{a:AV}{K:AV->St->Prop}(hl:lk Φ.sc.names x=some .globalImplicit) (ha:P8 G x a) (hd:sq x ("__debug__" :Str)=false) (q:K a σ):Zd G n Φ (.Name x pos) σ K X:=fun env ω fs he A h hA R=>by
 obtain ⟨m,l,R'⟩:=id R
 obtain ⟨v,hv,r⟩:=ha
 have r':=(r _ R'.ss.yo)
 have q':=R.here (RR:=RV) (r'.mono (List.nil_prefix) Le.rfl) q
 have hl':=(he.kindOf x).trans hl
 rcases hv with e|⟨e,b,nn⟩
 ·exact O2 G.Z R'.ss e q' he.kd hl' he.gl (Xf hd)
 ·exact Jv G.Z R'.ss e b q' nn he.kd hl' he.gl he.bl (Xf hd)
def ZD:Expr->Bool| .Starred .. =>true|_=>false
theorem WR {e:Expr}{rest:List Expr}{env:Env}(h:ZD e=false):gF (e::rest) env=(false,eval e env)::gF rest env:=by
 cases e<;>first|rfl|cases h
theorem Xe {env:Env}:∀{es:List Expr},(es.any ZD)=false->∀pos,(gv pos (gF es env)).any (·.1)=false
 | [],_,_=>rfl
 |e::r,h,pos=>by
  rw[dh,bC] at h
  rw[WR h.1]
  show ((false||(gv pos (gF r env)).any (·.1)))=false
  rw[Xe h.2 pos];rfl
theorem ym {K:List AV->St->Prop}(q:K [] σ):SR G n Φ [] σ K X:=fun pos env ω fs he A h hA R=>Fz (R.here (RR:=Xn) (a:= []) rfl q)
theorem rD {e:Expr}{r:List Expr}{K:List AV->St->Prop}(x:Zd G n Φ e σ (fun a Z4=>SR G n Φ r Z4 (fun as ZW=>K (a::as) ZW) X) X) (h:ZD e=false):SR G n Φ (e::r) σ K X:=fun pos env ω fs he A hh hA R=>
 BR ((x he hA R).mono (fun v ZU ⟨a,Z4,ZR,k,ZX,ZK,Zx⟩=>(k pos (he.up ZX) hA ZK).mono (fun vs ZO ⟨as,ZW,Zl,k,l₂,Zg,Yx⟩=>⟨a::as,ZW,Zl,k,ZX.trans l₂,Zg,⟨v,vs,rfl,Zx.up l₂,Yx⟩⟩) fun _ _ p=>p.up ZX) fun _ _ p=>p) (WR h)
abbrev yl (G:Gm) (n:Nat) (op:eS):=Nj G n RV (binaryOp op)
abbrev Jh (G:Gm) (n:Nat) (op:fW):=Nj G n RV (fq op)
theorem Fk {l r:Expr}{op:eS}{pos:Pos}{K:AV->St->Prop}(x:Zd G n Φ l σ (fun a Z4=>Zd G n Φ r Z4 (fun b ZW=>yl G n op a b ZW K X) X) X):Zd G n Φ (.BinOp l op r pos) σ K X:=fun env ω fs he A h hA R=>
 FD ((x he hA R).mono (fun u ZU ⟨a,Z4,ZR,k,ZX,ZK,Zx⟩=>(k (he.up ZX) hA ZK).mono (fun v ZO ⟨b,ZW,Zl,k,l₂,Zg,Yx⟩=>(k (Zx.up l₂) Yx hA Zg).mono (fun _ _ p=>p.up (ZX.trans l₂)) fun _ _ p=>p.up (ZX.trans l₂)) fun _ _ p=>p.up ZX) fun _ _ p=>p)
theorem By {x:Expr}{op:UnaryOp}{pos:Pos}{K:AV->St->Prop}(y:Zd G n Φ x σ (fun a Z4=>Q9 G n RV (unaryOp op) a Z4 K X) X):Zd G n Φ (.UnaryOp op x pos) σ K X:=fun env ω fs he A h hA R=>
 BD ((y he hA R).mono (fun u ZU ⟨a,Z4,ZR,k,ZX,ZK,Zx⟩=>(k Zx hA ZK).mono (fun _ _ p=>p.up ZX) fun _ _ p=>p.up ZX) fun _ _ p=>p)
def isSet (e:Expr):Bool:=gZ e.ctorIdx 7
theorem P7 {op:fW}{r:Expr}(h:isSet r=false):behindInMarks op r=false:=by cases r<;>first|rfl|cases h
theorem yk {l r:Expr}{op:fW}{pos:Pos}{K:AV->St->Prop}(x:Zd G n Φ l σ (fun a Z4=>Zd G n Φ r Z4 (fun b ZW=>Jh G n op a b ZW K X) X) X) (hs:isSet r=false):Zd G n Φ (.Compare l [op] [r] pos) σ K X:=fun env ω fs he A h hA R=>
 yD ((x he hA R).mono (fun u ZU ⟨a,Z4,ZR,k,ZX,ZK,Zx⟩=>(k (he.up ZX) hA ZK).mono (fun v ZO ⟨b,ZW,Zl,k,l₂,Zg,Yx⟩=>(k (Zx.up l₂) Yx hA Zg).mono (fun _ _ p=>p.up (ZX.trans l₂)) fun _ _ p=>p.up (ZX.trans l₂)) fun _ _ p=>p.up ZX) fun _ _ p=>p) (P7 hs)
theorem Fj {test body orelse:Expr}{pos:Pos}{K:AV->St->Prop}(t:V5 G n Φ test σ (fun b Z4=>match b with|true=>Zd G n Φ body Z4 K X|false=>Zd G n Φ orelse Z4 K X) X):Zd G n Φ (.IfExp test body orelse pos) σ K X:=fun env ω fs he A h hA R=>
 FA ((t he hA R).mono (fun c ZU ⟨b,Z4,ZR,k,ZX,ZK,Zx⟩=>by
  obtain rfl:c=b:=Zx
  cases c
  ·exact⟨fun e=>(nomatch e),fun _=>(k (he.up ZX) hA ZK).mono (fun _ _ p=>p.up ZX) fun _ _ p=>p.up ZX⟩
  ·exact⟨fun _=>(k (he.up ZX) hA ZK).mono (fun _ _ p=>p.up ZX) fun _ _ p=>p.up ZX,fun e=>(nomatch e)⟩) fun _ _ p=>p)
abbrev Jg (G:Gm) (n:Nat):=Q9 (ι:=Bool) G n RB truthy
def Us (e:Expr):Bool:= !(gZ e.ctorIdx 0||gZ e.ctorIdx 5||gZ e.ctorIdx 15) && Ye 3 e true fun h=> @PySem.Expr.UnaryOp.elim (fun _=>Bool) e h fun op _ _=>match op with| .Not=>false|_=>true
theorem Ni {e:Expr}{env:Env}{whole:Sem h_}(h:Us e=true):gc e env whole=(do let v<-whole;standAt e.pos;holding [v] (truthy v)):=by
 cases e with
 |UnaryOp op x p=>cases op<;>first|rfl|cases h
 |BoolOp=>cases h
 |IfExp=>cases h
 |Compare=>cases h
 |_=>rfl
theorem Bx {e:Expr}{K:Bool->St->Prop}(x:Zd G n Φ e σ (fun a Z4=>Jg G n a Z4 K X) X) (hp:Us e=true):V5 G n Φ e σ K X:=fun env ω fs he A h hA R=>
 BW ((x he hA R).mono (fun u ZU ⟨a,Z4,ZR,k,ZX,ZK,Zx⟩=>(k Zx hA ZK).mono (fun _ _ p=>p.up ZX) fun _ _ p=>p.up ZX) fun _ _ p=>p) (Ni hp)
theorem Bw {l r:Expr}{op:fW}{pos:Pos}{K:Bool->St->Prop}(x:Zd G n Φ l σ (fun a Z4=>Zd G n Φ r Z4 (fun b ZW=>Jh G n op a b ZW (fun c Zq=>Jg G n c Zq K X) X) X) X) (hs:isSet r=false):V5 G n Φ (.Compare l [op] [r] pos) σ K X:=fun env ω fs he A h hA R=>
 La ((x he hA R).mono (fun u ZU ⟨a,Z4,ZR,k,ZX,ZK,Zx⟩=>(k (he.up ZX) hA ZK).mono (fun v ZO ⟨b,ZW,Zl,k,l₂,Zg,Yx⟩=>(k (Zx.up l₂) Yx hA Zg).mono (fun z X8 ⟨c,Zq,yj,k,Q8,Jf,K1⟩=>
  (k K1 hA Jf).mono (fun _ _ p=>p.up ((ZX.trans l₂).trans Q8)) fun _ _ p=>p.up ((ZX.trans l₂).trans Q8)) fun _ _ p=>p.up (ZX.trans l₂)) fun _ _ p=>p.up ZX) fun _ _ p=>p) (P7 hs)
theorem Fi {l Zx Yx:Expr}{QO Sw:fW}{pos:Pos}{K:Bool->St->Prop}(x:Zd G n Φ l σ (fun a Z4=>Zd G n Φ Zx Z4 (fun b ZW=>Jh G n QO a b ZW (fun c Zq=>Jg G n c Zq (fun t Me=>match t with
  |false=>K false Me
  |true=>Zd G n Φ Yx Me (fun b' C5=>Jh G n Sw b b' C5 (fun c Mc=>Jg G n c Mc K X) X) X) X) X) X) X) (hs:isSet Yx=false):V5 G n Φ (.Compare l [QO,Sw] [Zx,Yx] pos) σ K X:=fun env ω fs he A h hA R=>
 JC ((x he hA R).mono (fun u ZU ⟨a,Z4,ZR,k,ZX,ZK,rC⟩=>(k (he.up ZX) hA ZK).mono (fun v ZO ⟨b,ZW,Zl,k,l₂,Zg,yi⟩=>(k (rC.up l₂) yi hA Zg).mono (fun z X8 ⟨c,Zq,yj,k,Q8,Jf,rB⟩=>
  (k rB hA Jf).mono (fun t Vn ⟨t',Me,yh,k,yg,Je,rA⟩=>by
   obtain rfl:t=t':=rA
   have l':=((ZX.trans l₂).trans Q8).trans yg
   cases t
   ·exact⟨fun e=>(nomatch e),fun _=>⟨false,Me,yh,k,l',Je,rfl⟩⟩
   ·refine⟨fun _=> ?_,fun e=>(nomatch e)⟩
    exact(k (he.up l') hA Je).mono (fun v' XE ⟨b',C5,nP,k,P6,Fg,rz⟩=>(k (yi.up ((Q8.trans yg).trans P6)) rz hA Fg).mono (fun z O3 ⟨c,Mc,C4,k,OV,K0,ry⟩=>
     (k ry hA K0).mono (fun _ _ p=>p.up ((l'.trans P6).trans OV)) fun _ _ p=>p.up ((l'.trans P6).trans OV)) fun _ _ p=>p.up (l'.trans P6)) fun _ _ p=>p.up l')
   fun _ _ p=>p.up ((ZX.trans l₂).trans Q8)) fun _ _ p=>p.up (ZX.trans l₂)) fun _ _ p=>p.up ZX) fun _ _ p=>p) (by show behindInMarks Sw Yx=false;exact P7 hs)
theorem yf {x:Expr}{pos:Pos}{K:Bool->St->Prop}(t:V5 G n Φ x σ (fun b=>K (!b)) X):V5 G n Φ (.UnaryOp .Not x pos) σ K X:=fun env ω fs he A h hA R=>
 w_not ((t he hA R).mono (fun c ZU ⟨b,Z4,ZR,k,ZX,ZK,Zx⟩=>⟨!b,Z4,ZR,k,ZX,ZK,by rw[show c=b from Zx]⟩) fun _ _ p=>p)
theorem Bv {pos:Pos}{K:Bool->St->Prop}(q:K true σ):V5 G n Φ (.BoolOp .And [] pos) σ K X:=fun env ω fs he A h hA R=>BX (R.here (RR:=RB) rfl q)
theorem ye {pos:Pos}{K:Bool->St->Prop}(q:K false σ):V5 G n Φ (.BoolOp .Or [] pos) σ K X:=fun env ω fs he A h hA R=>yG (R.here (RR:=RB) rfl q)
theorem yd {x:Expr}{r:List Expr}{pos:Pos}{K:Bool->St->Prop}(t:V5 G n Φ x σ (fun b Z4=>match b with|true=>V5 G n Φ (.BoolOp .And r pos) Z4 K X|false=>K false Z4) X):V5 G n Φ (.BoolOp .And (x::r) pos) σ K X:=fun env ω fs he A h hA R=>
 w_and ((t he hA R).mono (fun c ZU ⟨b,Z4,ZR,k,ZX,ZK,Zx⟩=>by
  obtain rfl:c=b:=Zx
  cases c
  ·exact⟨fun e=>(nomatch e),fun _=>⟨false,Z4,ZR,k,ZX,ZK,rfl⟩⟩
  ·exact⟨fun _=>(k (he.up ZX) hA ZK).mono (fun _ _ p=>p.up ZX) fun _ _ p=>p.up ZX,fun e=>(nomatch e)⟩) fun _ _ p=>p)
theorem rt {x:Expr}{r:List Expr}{pos:Pos}{K:Bool->St->Prop}(t:V5 G n Φ x σ (fun b Z4=>match b with|false=>V5 G n Φ (.BoolOp .Or r pos) Z4 K X|true=>K true Z4) X):V5 G n Φ (.BoolOp .Or (x::r) pos) σ K X:=fun env ω fs he A h hA R=>
 w_or ((t he hA R).mono (fun c ZU ⟨b,Z4,ZR,k,ZX,ZK,Zx⟩=>by
  obtain rfl:c=b:=Zx
  cases c
  ·exact⟨fun e=>(nomatch e),fun _=>(k (he.up ZX) hA ZK).mono (fun _ _ p=>p.up ZX) fun _ _ p=>p.up ZX⟩
  ·exact⟨fun _=>⟨true,Z4,ZR,k,ZX,ZK,rfl⟩,fun e=>(nomatch e)⟩) fun _ _ p=>p)
theorem OU {K:Zk->St->Prop}(q:K .next σ):X0 G n Φ [] σ K X:=fun env ω fs he A h hA R=>yH (R.here (RR:=RF) (a:= .next) rfl q)
theorem YJ {s:Stmt}{r:List Stmt}{K:Zk->St->Prop}(x:We G n Φ s σ (fun fl Z4=>match fl with| .next=>X0 G n Φ r Z4 K X|fl=>K fl Z4) X):X0 G n Φ (s::r) σ K X:=fun env ω fs he A h hA R=>
 Nu ((x he hA R).mono (fun f ZU ⟨fl,Z4,ZR,k,ZX,ZK,Zx⟩=>by
  cases fl with
  |next=>obtain rfl:f= .next:=Zx;exact(k (he.up ZX) hA ZK).mono (fun _ _ p=>p.up ZX) fun _ _ p=>p.up ZX
  |brk=>obtain rfl:f= .brk:=Zx;exact⟨.brk,Z4,ZR,k,ZX,ZK,rfl⟩
  |cont=>obtain rfl:f= .cont:=Zx;exact⟨.cont,Z4,ZR,k,ZX,ZK,rfl⟩
  |ret a=>obtain ⟨v,rfl,r⟩:=Zx;exact⟨.ret a,Z4,ZR,k,ZX,ZK,v,rfl,r⟩) fun _ _ p=>p)
theorem Nh {e:Expr}{pos:Pos}{K:Zk->St->Prop}(x:Zd G n Φ e σ (fun _ Z4=>K .next Z4) X) (hs:∀env,dN e none pos.line env=pure false):We G n Φ (.Expr e pos) σ K X:=fun env ω fs he A h hA R=>
 B3 ((x he hA R).mono (fun v ZU ⟨a,Z4,ZR,k,ZX,ZK,Zx⟩=>⟨.next,Z4,ZR,k,ZX,ZK,rfl⟩) fun _ _ p=>p) (by unfold interactive;rw[he.kd];rfl) (hs env)
theorem Bu {pos:Pos}{K:Zk->St->Prop}(q:K .next σ):We G n Φ (.Pass pos) σ K X:=fun env ω fs he A h hA R=>B0 (R.here (RR:=RF) (a:= .next) rfl q)
theorem Ff {pos:Pos}{K:Zk->St->Prop}(q:K .brk σ):We G n Φ (.Break pos) σ K X:=fun env ω fs he A h hA R=>Fv (R.here (RR:=RF) (a:= .brk) rfl q)
theorem Bt {pos:Pos}{K:Zk->St->Prop}(q:K .cont σ):We G n Φ (.Continue pos) σ K X:=fun env ω fs he A h hA R=>BZ (R.here (RR:=RF) (a:= .cont) rfl q)
theorem Bs {pos:Pos}{K:Zk->St->Prop}(q:K (.ret (.d .none)) σ):We G n Φ (.Return none pos) σ K X:=fun env ω fs he A h hA R=>BY (R.here (RR:=RF) (a:= .ret (.d .none)) ⟨.none,rfl,by unfold Rep Y8;rfl⟩ q)
theorem yc {e:Expr}{pos:Pos}{K:Zk->St->Prop}(x:Zd G n Φ e σ (fun a Z4=>K (.ret a) Z4) X):We G n Φ (.Return (some e) pos) σ K X:=fun env ω fs he A h hA R=>
 C_ ((x he hA R).mono (fun v ZU ⟨a,Z4,ZR,k,ZX,ZK,Zx⟩=>⟨.ret a,Z4,ZR,k,ZX,ZK,v,rfl,Zx⟩) fun _ _ p=>p)
theorem U9 {test:Expr}{body orelse:List Stmt}{pos:Pos}{K:Zk->St->Prop}(t:V5 G n Φ test σ (fun b Z4=>match b with|true=>X0 G n Φ body Z4 K X|false=>X0 G n Φ orelse Z4 K X) X):We G n Φ (.If test body orelse pos) σ K X:=fun env ω fs he A h hA R=>
 rN ((t he hA R).mono (fun c ZU ⟨b,Z4,ZR,k,ZX,ZK,Zx⟩=>by
  obtain rfl:c=b:=Zx
  cases c
  ·exact⟨fun e=>(nomatch e),fun _=>(k (he.up ZX) hA ZK).mono (fun _ _ p=>p.up ZX) fun _ _ p=>p.up ZX⟩
  ·exact⟨fun _=>(k (he.up ZX) hA ZK).mono (fun _ _ p=>p.up ZX) fun _ _ p=>p.up ZX,fun e=>(nomatch e)⟩) fun _ _ p=>p)
end
section
variable {hS h h':Heap}{B V:Part}{L L':Addr}{m m':Str->Option h_}{cs R:List (Part->Prop)}{P:Part->Prop}
theorem SS.Ng (S:SS hS B L m cs h) (hn:h'.Ns h.objs.size m') (hk:∀a o,h.get? a=some o->h'.get? a=some o):SS hS B h.objs.size m' (Nm L m::cs) h':=by
 obtain ⟨V,S,p⟩:=S
 obtain ⟨oL,es,ep,hL,hd,hs,hf⟩:=id S.loc
 have nB:B h.objs.size=none:=by
  cases e:B h.objs.size with
  |none=>rfl
  |some o=>exact absurd (gJ (S.keep _ _ e)) (eT _)
 have nV:V h.objs.size=none:=by
  cases e:V h.objs.size with
  |none=>rfl
  |some o=>exact absurd (S.lt e) (eT _)
 have ne:h.objs.size≠L:=(f_ (gJ hL)).symm
 refine⟨upd V L (some oL),⟨S.st,fun a o e=>hk _ _ (S.keep a o e),fun a o e=> ?_,hn,fun a o e=> ?_,?_,nB⟩,upd (fun _=>none) L (some oL),V,fun y hy=> ?_,fun y oy ey=> ?_,fun y oy ey=> ?_,⟨oL,es,ep,Z6 _ _ _,hd,hs,hf⟩,p⟩
 ·by_cases q:a=L
  ·subst q;rw[Z6] at e;cases e;exact hk _ _ hL
  ·rw[Z2 q] at e;exact hk _ _ (S.YW a o e)
 ·by_cases q:a=L
  ·subst q;exact S.bl
  ·rw[Z2 q] at e;exact S.vb a o e
 ·rw[Z2 ne];exact nV
 ·by_cases q:y=L
  ·subst q;exact S.vl
  ·rw[Z2 q] at hy;exact absurd rfl hy
 ·by_cases q:y=L
  ·subst q;rw[Z6] at ey ⊢;exact ey
  ·rw[Z2 q] at ey;cases ey
 ·rw[Z2 (by rintro rfl;rw[S.vl] at ey;cases ey)];exact ey
theorem SS.P5 (S:SS hS B L' m' (Nm L m::cs) h):SS hS B L m cs h:=by
 obtain ⟨V,S,V1,V2,d,l1,l2,⟨o,es,ep,e,hd,hs,hf⟩,r⟩:=S
 have n2:V2 L=none:=d L (by rw[e];exact fun z=>nomatch z)
 refine⟨V2,⟨S.st,S.keep,fun a oa ea=>S.YW _ _ (l2 _ _ ea),⟨o,es,ep,S.YW _ _ (l1 _ _ e),hd,hs,hf⟩,fun a oa ea=>S.vb _ _ (l2 _ _ ea),n2,S.vb _ _ (l1 _ _ e)⟩,r⟩
end
structure Fn where
 sc:gQ
 body:List Stmt
 ps:List Str
 ex:List (Str×D)
 cd:Option (Addr×Str)
def cellsOf:List (Str×gr)->List Str->List Str
 | [],acc=>acc
 |(x,k)::r,acc=>match k with| .cell=>cellsOf r (x::acc)|_=>cellsOf r acc
def numbered:List Str->Nat->List (Str×Nat)
 | [],_=> []
 |x::r,i=>(x,i)::numbered r (i+1)
def Ur:List Str->List AV->List (Str×AV)
 |x::r,a::s=>(x,a)::Ur r s
 |_,_=> []
inductive rq (K:Frag) (fn:Fn) (fd:fL) (vs:List h_):Prop
 |mk (bx:List (Str×h_)) (nm:bx.map (·.1)=fn.ex.map (·.1)) (bt:∀s:g7,K.In s.heap->BindsTo s fd ⟨vs,[]⟩ (gH fn.ps vs++bx)) (pl:fn.ex= []->bindArgs fd ⟨vs,[]⟩=pure (gH fn.ps vs))
  (rp:∀B:Part,ZE B (fn.ex.map (·.2)) (bx.map (·.2)))
structure Q7 (K:Frag) (fn:Fn) (fd:fL):Prop where
 ci:codeIn K fd.code fd.qualname=true
 bd:fd.body= .stmts fn.body
 sc:fd.scope=fn.sc
 cl:fd.closure= []
 gl:fd.globals=mainGlobals
 bl:fd.builtins=builtinsNs
 bn:∀vs:List h_,vs.length=fn.ps.length->rq K fn fd vs
 cd:∀c q,fn.cd=some (c,q)->fd.code= .ref c/\fd.qualname++ ".<locals>." =q
 kind:fn.sc.kind= .function
 gen:fn.sc.isGenerator=false
 co:fn.sc.isCoroutine=false
inductive Q6 (G:Gm) (a:Addr) (fn:Fn):Prop
 |mk (o:Obj) (fd:fL) (e:G.K.lookup a=some o) (d:o.data= .func fd) (F:Q7 G.K fn fd)
theorem ZE.Sm {ρ:List Addr}{B:Part}:∀{l:List D}{vs:List h_},ZE B l vs->ZT ρ B (l.map .d) vs
 | [],_,h=>by unfold ZE at h;exact h
 |x::l,_,h=>by
  unfold ZE at h;obtain ⟨v,r,e,a,b⟩:=h
  exact⟨v,r,e,a,ZE.Sm b⟩
theorem YS.binds {ω:Wd}:∀{ps:List Str}{as:List AV}{vs:List h_}{m:Str->Option h_}{l:List (Str×AV)},ps.length=vs.length->Xn ω as vs->YS ω l m->
  YS ω ((Ur ps as).foldl (fun l x=>Mine.put l x.1 x.2) l) ((gH ps vs).foldl (fun m x=>upd m x.1 (some x.2)) m)
 | [],as,vs,m,l,_,_,h=>by cases as<;>exact h
 |p::ps,[],vs,m,l,e,r,h=>by rw[show vs= [] from r] at e;cases e
 |p::ps,a::as,_,m,l,e,⟨v,vs,e',r1,r2⟩,h=>by
  subst e'
  exact YS.binds (ps:=ps) (by simpa using e) r2 (h.put r1)
theorem YS.nil {ω:Wd}{m:Str->Option h_}:YS ω [] m:=fun _ _ e=>by cases e
def QI (fn:Fn) (as:List AV):List (Str×AV):=(fn.ex.map fun x=>(x.1,AV.d x.2)).foldl (fun l x=>Mine.put l x.1 x.2) ((Ur fn.ps as).foldl (fun l x=>Mine.put l x.1 x.2) [])
theorem OT:∀{bx:List (Str×h_)},bx=gH (bx.map (·.1)) (bx.map (·.2))
 | []=>rfl
 |x::l=>by rw[gb,gb,List.zip_cons_cons,<-OT]
theorem Jd {l:List (Str×D)}:l.map (fun x=>(x.1,AV.d x.2))=Ur (l.map (·.1)) ((l.map (·.2)).map AV.d):=by
 induction l with
 |nil=>rfl
 |cons x l ih=>simp[Ur,ih]
theorem KZ {G:Gm}{fn:Fn}{ω:Wd}{as:List AV}{vs:List h_}{bx:List (Str×h_)}(h1:vs.length=fn.ps.length) (r:Xn ω as vs) (h2:bx.map (·.1)=fn.ex.map (·.1)) (h3:ZE ω.B (fn.ex.map (·.2)) (bx.map (·.2))):
  YS ω (QI fn as) (S4 (gH fn.ps vs++bx)):=by
 unfold S4 QI
 rw[List.foldl_append,Jd]
 have e:bx=gH (fn.ex.map (·.1)) (bx.map (·.2)):=by
  rw[<-h2];exact OT
 rw[e]
 refine YS.binds ?_ ?_ (YS.binds h1.symm r .nil)
 ·rw[<-h2];simp
 ·exact h3.Sm
section
variable {G:Gm}{n:Nat}{Φ:Fm}{σ Z4 ZW Zq ZH:St}{X:XK}
def P4 (G:Gm) (n:Nat) (f:Addr) (as:List AV) (σ:St) (K:AV->St->Prop) (X:XK):Prop:=
 ∀{{L:Addr}} {{fs:Frs}} {{ω:Wd}} {{vs:List h_}},Xn ω as vs->∀{{A:gY}} {{h:Heap}},Wu n A L fs->Rel G L ω σ fs h->WC G.prog G.w A (.call (.ref f) ⟨vs,[]⟩) (PG G RV L fs ω K) (PG G RV L fs ω X) h
theorem P4.cl {f:Addr}{as:List AV}{K:AV->St->Prop}(x:P4 G n f as σ K X):Ve G n (.Z8 (.ref f)) as σ K X:=fun L fs ω fv vs rf r A h hA R=>by
 obtain ⟨rfl,_⟩:fv= .ref f/\_:=rf
 exact(x r hA R).call
theorem P4.imp {f:Addr}{as:List AV}{K K':AV->St->Prop}{X X':XK}(x:P4 G n f as σ K X) (k:∀a σ,K a σ->K' a σ) (kx:∀a σ,X a σ->X' a σ):P4 G n f as σ K' X':=fun _ _ _ _ r _ _ hA R=>(x r hA R).mono (fun _ _ p=>p.imp k) fun _ _ p=>p.imp kx
theorem Wu.deeper {A:gY}{L L':Addr}{fs:Frs}{m:Str->Option h_}{env:Env}(a:Wu (n+1) A L fs) (hk:env.scope.kind= .function) (hf:env.frame=some env.locals) (hl:env.locals=L'):Wu n (A.deeper env) L' (Nl.NC L m::fs):=by
 obtain ⟨l,e,k⟩:=a.fr
 refine⟨a.rm.deeper,env::l,bB e,fun env' h'=> ?_⟩
 rcases gy.mp h' with rfl|h'
 ·exact⟨hk,hf,.inl hl⟩
 ·obtain ⟨k1,k2,k3⟩:=k env' h'
  refine⟨k1,k2,.inr ?_⟩
  rcases k3 with k3|k3
  ·rw[k3];exact .head _
  ·exact .tail _ k3
def U8 (fn:Fn):Bool:=fn.sc.names.all fun x=>match x.2 with| .cell=>false|_=>true
def XZ (sc:gQ) (l:List Str):Bool:=l.all fun x=>match lk sc.names x with|some .local=>true|_=>false
theorem VT {sc:gQ}{l:List Str}(h:XZ sc l=true):∀x∈l,sc.names.lookup x=some .local:=fun x hx=>by
 have:=gu.mp h x hx
 rw[Vf]
 cases e:lk sc.names x with
 |none=>rw[e] at this;cases this
 |some k=>rw[e] at this;cases k<;>first|rfl|cases this
theorem SP:∀{ps:List Str}{vs:List h_},vs.length=ps.length->(gH ps vs).map (·.1)=ps
 | [],_,_=>rfl
 |p::ps,[],e=>by cases e
 |p::ps,v::vs,e=>by simp only[List.zip_cons_cons,gb];rw[SP (by simpa using e)]
def VS:Zk->AV| .ret a=>a|_=> .d .none
def nO (f:Flow):h_:=match f with| .ret v=>v|_=> .none
theorem P0 {ω:Wd}{a:Zk}{f:Flow}(h:RF ω a f):RV ω (VS a) (nO f):=by
 cases a with
 |ret a=>obtain ⟨v,rfl,r⟩:=h;exact r
 |_=>obtain rfl:=h;unfold VS RV Rep Y8;rfl
theorem Q7.loc {K:Frag}{fn:Fn}{fd:fL}{vs:List h_}{bx:List (Str×h_)}(F:Q7 K fn fd) (hl:XZ fn.sc (fn.ps++fn.ex.map (·.1))=true) (hv:vs.length=fn.ps.length) (nm:bx.map (·.1)=fn.ex.map (·.1)):∀x∈gH fn.ps vs++bx,fd.scope.names.lookup x.1=some .local:=fun x hx=>by
 rw[F.sc]
 refine VT hl x.1 ?_
 rw[<-SP hv,<-nm,<-c6]
 exact bA hx
theorem Q7.fk {K:Frag}{fn:Fn}{fd:fL}(F:Q7 K fn fd):fd.scope.kind= .function:=F.sc▸F.kind
theorem Q7.U8 {K:Frag}{fn:Fn}{fd:fL}(F:Q7 K fn fd) (hc:U8 fn=true):∀x∈fd.scope.names,x.2≠ .cell:=fun x hx q=>by
 have:=gu.mp hc x (F.sc▸hx)
 rw[q] at this;cases this
theorem OS {Yq:List Gh}{o2:St->List Gh}{f:Addr}{fn:Fn}{as:List AV}{K:AV->St->Prop}(ok:Q6 G f fn) (hlen:as.length=fn.ps.length) (hc:U8 fn=true) (hl:XZ fn.sc (fn.ps++fn.ex.map (·.1))=true)
  (x:∀{{env:Env}} {{ω:Wd}} {{fs:Frs}} {{A:gY}} {{h:Heap}} {{outer:List Env}},Zb ⟨fn.sc,[],fn.cd⟩ env ω.ρ->Wu n A env.locals fs->A.frames=some (env::outer)->env.frame=some env.locals->Rel G env.locals ω ⟨QI fn as,σ.hp,Yq⟩ fs h->
   W G.prog G.w A (fY fn.body env) (PG G RF env.locals fs ω fun fl ZH=>K (VS fl) ⟨σ.loc,ZH.hp,o2 ZH⟩) (PG G RV env.locals fs ω fun _ _=>False) h):P4 G (n+1) f as σ K X:=fun L fs ω vs r A h hA R s RR hs g gx=>by
 subst hs
 obtain ⟨m,lm,R'⟩:=R
 obtain ⟨o,fd,e1,e2,F⟩:=ok
 have hv:vs.length=fn.ps.length:=(ZT.length r).trans hlen
 obtain ⟨bx,b1,b2,_,b3⟩:=F.bn vs hv
 obtain ⟨lA,rj,_⟩:=id hA.fr
 refine codeAny_call_def (fd:=fd) (body:=fn.body) hA.rm.room (G.Z.k.keeps R'.ss.Z8 _ _ e1) e2 (G.Z.nolimit.keeps R'.ss.Z8) (codeRec_of (G.Z.k.keeps R'.ss.Z8) F.ci) F.bd (b2 s (G.Z.k.keeps R'.ss.Z8)) (F.U8 hc) (F.loc hl hv b1) (fun ZU hn Sl=> ?_) (F.sc▸F.co) (F.sc▸F.gen) F.fk
 have S':=R'.ss.Ng hn Sl
 rw[Sv] at S'
 refine(x (fs:=Nl.NC L m::fs) ⟨F.sc,F.kind,F.gl,F.bl,(fun _ _ q=>nomatch q),F.cd⟩ (Wu.deeper (m:=m) hA F.fk rfl rfl) (bB rj) rfl ⟨_,KZ (G:=G) hv r b1 (b3 _),R'.len,S'.YT fun V hV=>Z0.Yo hV⟩).go (fun fl ZO tk y=> ?_) (fun _ _ _ y=>y.no)
 obtain ⟨Fe,ZH,Zw,k,l',⟨m₂,C3,Zg⟩,rf⟩:=y
 exact g _ ZO tk ⟨VS Fe,_,Zw,k,l',⟨m,lm.up l',Zg.len,(Zg.ss.YT fun V hV=>Z0.YK hV).P5⟩,P0 rf⟩
theorem Mb {f:Addr}{fn:Fn}{as:List AV}{K:AV->St->Prop}(ok:Q6 G f fn) (hlen:as.length=fn.ps.length) (hc:U8 fn=true) (hl:XZ fn.sc (fn.ps++fn.ex.map (·.1))=true)
  (x:X0 G n ⟨fn.sc,[],fn.cd⟩ fn.body ⟨QI fn as,σ.hp,σ.os⟩ (fun fl ZH=>K (VS fl) ⟨σ.loc,ZH.hp,ZH.os⟩) fun _ _=>False):P4 G (n+1) f as σ K X:=
 OS (Yq:=σ.os) (o2:=fun ZH=>ZH.os) ok hlen hc hl fun _ _ _ _ _ _ he hA _ _ R=>x he hA R
end
section
variable {hS h h':Heap}{B V:Part}{L L':Addr}{m m':Str->Option h_}{cs R:List (Part->Prop)}{P:Part->Prop}
structure C2 (hS:Heap) (B V:Part) (h:Heap):Prop where
 st:∀a o,hS.get? a=some o->B a=some o
 keep:∀a o,B a=some o->h.get? a=some o
 YW:∀a o,V a=some o->h.get? a=some o
 vb:∀a o,V a=some o->B a=none
theorem SS.outer (S:SS hS B L m cs h):∃V,C2 hS B V h/\Z0 (Nm L m::cs) V:=by
 obtain ⟨V,S,p⟩:=S
 obtain ⟨oL,es,ep,hL,hd,hs,hf⟩:=id S.loc
 refine⟨upd V L (some oL),⟨S.st,S.keep,fun a o e=> ?_,fun a o e=> ?_⟩,upd (fun _=>none) L (some oL),V,fun y hy=> ?_,fun y oy ey=> ?_,fun y oy ey=> ?_,⟨oL,es,ep,Z6 _ _ _,hd,hs,hf⟩,p⟩
 ·by_cases q:a=L
  ·subst q;rw[Z6] at e;cases e;exact hL
  ·rw[Z2 q] at e;exact S.YW a o e
 ·by_cases q:a=L
  ·subst q;exact S.bl
  ·rw[Z2 q] at e;exact S.vb a o e
 ·by_cases q:y=L
  ·subst q;exact S.vl
  ·rw[Z2 q] at hy;exact absurd rfl hy
 ·by_cases q:y=L
  ·subst q;rw[Z6] at ey ⊢;exact ey
  ·rw[Z2 q] at ey;cases ey
 ·rw[Z2 (by rintro rfl;rw[S.vl] at ey;cases ey)];exact ey
theorem UP {W:Part}{b:Addr}(k:∀a o,W a=some o->h.get? a=some o) (hb:h.objs.size<=b):W b=none:=by
 cases e:W b with
 |none=>rfl
 |some o=>exact absurd (gJ (k b o e)) (Nat.not_lt.mpr hb)
end
def Jc (sc:gQ) (ps:List Str) (as:List AV):List (Str×AV):=(Ur ps as).foldl (fun l x=>match lk sc.names x.1 with|some .local=>Mine.put l x.1 x.2|_=>l) []
def KY (sc:gQ) (ps:List Str) (as:List AV):List (Str×AV):=(Ur ps as).foldl (fun l x=>match lk sc.names x.1 with|some .local=>l|_=>Mine.put l x.1 x.2) []
def WX (sc:gQ) (ps:List Str) (as:List AV):List AO:=(cellsOf sc.names []).map fun x=>AO.cell (lk (KY sc ps as) x)
theorem QH {ω:Wd}{sc:gQ}{kf:Str->Option gr}(hk:∀x,kf x=lk sc.names x):∀{ps:List Str}{as:List AV}{vs:List h_}{m:Str->Option h_}{l:List (Str×AV)},ps.length=vs.length->Xn ω as vs->YS ω l m->
  YS ω ((Ur ps as).foldl (fun l x=>match lk sc.names x.1 with|some .local=>Mine.put l x.1 x.2|_=>l) l) (bindL kf (gH ps vs) m)
 | [],as,vs,m,l,_,_,h=>by cases as<;>exact h
 |p::ps,[],vs,m,l,e,r,h=>by rw[show vs= [] from r] at e;cases e
 |p::ps,a::as,_,m,l,e,⟨v,vs,e',r1,r2⟩,h=>by
  subst e'
  refine QH hk (ps:=ps) (by simpa using e) r2 ?_
  show YS ω (match lk sc.names p with|some .local=>Mine.put l p a|_=>l) (if kf p=some .local then fun y=>if y=p then some v else m y else m)
  rw[hk]
  cases q:lk sc.names p with
  |none=>rw[if_neg (by intro q;cases q)];exact h
  |some k=>cases k<;>first|(rw[if_pos rfl];exact h.put r1)|(rw[if_neg (by intro q;cases q)];exact h)
theorem QG {ω:Wd}{sc:gQ}{kf:Str->Option gr}(hk:∀x,kf x=lk sc.names x):∀{ps:List Str}{as:List AV}{vs:List h_}{m:Str->Option h_}{l:List (Str×AV)},ps.length=vs.length->Xn ω as vs->JM ω.ρ ω.B l m->
  JM ω.ρ ω.B ((Ur ps as).foldl (fun l x=>match lk sc.names x.1 with|some .local=>l|_=>Mine.put l x.1 x.2) l) (bindC kf (gH ps vs) m)
 | [],as,vs,m,l,_,_,h=>by cases as<;>exact h
 |p::ps,[],vs,m,l,e,r,h=>by rw[show vs= [] from r] at e;cases e
 |p::ps,a::as,_,m,l,e,⟨v,vs,e',r1,r2⟩,h=>by
  subst e'
  refine QG hk (ps:=ps) (by simpa using e) r2 ?_
  show JM ω.ρ ω.B (match lk sc.names p with|some .local=>l|_=>Mine.put l p a) (if kf p=some .local then m else fun y=>if y=p then some v else m y)
  rw[hk]
  have key:JM ω.ρ ω.B (Mine.put l p a) (fun y=>if y=p then some v else m y):=fun y=>by
   show OW ω.ρ ω.B (lk (Mine.put l p a) y) (if y=p then some v else m y)
   rw[Qd]
   by_cases q:y=p
   ·rw[if_pos q,if_pos q];exact⟨v,rfl,r1⟩
   ·rw[if_neg q,if_neg q];exact h y
  cases q:lk sc.names p with
  |none=>rw[if_neg (by intro q;cases q)];exact key
  |some k=>cases k<;>first|(rw[if_pos rfl];exact h)|(rw[if_neg (by intro q;cases q)];exact key)
theorem Wr:∀{names:List (Str×gr)}{n:Nat}{acc:List (Str×Addr)},(cellsFrom n names acc).map (·.1)=cellsOf names (acc.map (·.1))
 | [],_,_=>rfl
 |(x,k)::r,n,acc=>by
  unfold cellsFrom cellsOf
  cases k<;>first|(rw[if_neg (by decide)];exact Wr (names:=r))|(rw[if_pos (by decide)];exact Wr (names:=r))
def distinct:List Str->Bool
 | []=>true
 |x::r=>(r.all fun y=> !sq x y) && distinct r
theorem XY:∀{l:List Str},distinct l=true->l.Nodup
 | [],_=>List.Pairwise.nil
 |x::r,h=>by
  unfold distinct at h
  obtain ⟨h1,h2⟩:=g6.mp h
  refine bY.mpr ⟨fun hm=> ?_,XY h2⟩
  have:=gu.mp h1 x hm
  rw[Zv.mpr rfl] at this;cases this
theorem Tw:∀{l:List (Str×Addr)}{i j:Nat}{x:Str}{ρ:List Addr},lk (numbered (l.map (·.1)) i) x=some j->ρ.length=i->(l.map (·.1)).Nodup->∃c,l.lookup x=some c/\(ρ++l.map (·.2))[j]?=some c
 | [],_,_,_,_,h,_,_=>by cases h
 |(y,c)::r,i,j,x,ρ,h,hl,hn=>by
  rw[gb] at h hn
  unfold numbered lk at h
  rw[bY] at hn
  cases q:sq y x with
  |true=>
   have:=Zv.mp q;subst this
   rw[q] at h;cases h
   refine⟨c,by simp,?_⟩
   rw[d9 (by rw[hl];exact gi _),hl];simp
  |false=>
   rw[q] at h
   obtain ⟨c',e1,e2⟩:=Tw (l:=r) (ρ:=ρ++ [c]) h (by simp[hl]) hn.2
   have ne:(x==y)=false:=by
    have:x≠y:=fun e=>by subst e;rw[Zv.mpr rfl] at q;cases q
    simpa using this
   refine⟨c',by rw[dD,ne];exact e1,?_⟩
   rw[gG] at e2;exact e2
def Vy (sc:gQ) (ps:List Str):Bool:=ps.all fun x=>match lk sc.names x with|some .local=>true|some .cell=>(lk ((cellsOf sc.names []).map fun y=>(y,())) x).isSome|_=>false
theorem Ma:∀{l:List (Str×Addr)}{x:Str},(lk ((l.map (·.1)).map fun y=>(y,())) x).isSome=true->(l.lookup x).isSome=true
 | [],_,h=>by cases h
 |(y,c)::r,x,h=>by
  rw[gb,gb] at h
  unfold lk at h
  rw[Vf];unfold lk
  cases q:sq y x with
  |true=>rfl
  |false=>rw[q] at h;rw[<-Vf];exact Ma h
theorem Yr {B:Part}{ρ:List Addr}:∀{r r':List Addr}{H H':List AO},r.length=H.length->parts B ρ (r++r') (H++H')=parts B ρ r H++parts B ρ r' H'
 | [],_,[],_,_=>rfl
 | [],_,_::_,_,e=>by cases e
 |_::_,_,[],_,e=>by cases e
 |a::r,r',o::H,H',e=>by
  show Y3 ρ B a o::parts B ρ (r++r') (H++H')=Y3 ρ B a o::(parts B ρ r H++parts B ρ r' H')
  rw[Yr (by simpa using e)]
theorem Z0.Sk:∀{l cs:List (Part->Prop)}{V:Part},Z0 (l++cs) V->Z0 (cs++l) V
 | [],cs,V,h=>by simpa using h
 |P::l,cs,V,h=>by
  have h1:Z0 (P::(cs++l)) V:=Z0.map (fun _=>Z0.Sk) h
  have:Z0 (cs++P::l) V:=Z0.Yo h1
  exact this
theorem Z0.Fd {a b c:List (Part->Prop)}{V:Part}(h:Z0 (a++(b++c)) V):Z0 (a++(c++b)) V:=by
 induction a generalizing V with
 |nil=>exact Z0.Sk (l:=b) (cs:=c) h
 |cons P a ih=>exact Z0.map (fun _ x=>ih x) h
section
variable {G:Gm}{n:Nat}{Φ:Fm}{σ Z4 ZW Zq ZH:St}{X:XK}
def KX (fn:Fn) (i:Nat):Fm:=⟨fn.sc,numbered (cellsOf fn.sc.names []) i,fn.cd⟩
theorem Tv {ω:Wd}{sc:gQ}{ps:List Str}{as:List AV}{cm:Str->Option h_}(hf:JM ω.ρ ω.B (KY sc ps as) cm) (Yy:List Addr) (hp:ω.ρ<+:Yy):∀{l:List (Str×Addr)}{F:List (Part->Prop)}{V:Part},Z0 (l.map (fun x=>Vg x.2 (cm x.1))++F) V->
  Z0 (parts ω.B Yy (l.map (·.2)) ((l.map (·.1)).map fun x=>AO.cell (lk (KY sc ps as) x))++F) V
 | [],F,V,h=>h
 |(x,c)::r,F,V,⟨V1,V2,d,l1,l2,p,q⟩=>by
  refine⟨V1,V2,d,l1,l2,?_,Tv hf Yy hp q⟩
  have:=hf x
  show Y3 Yy ω.B c (.cell (lk (KY sc ps as) x)) V1
  cases e:lk (KY sc ps as) x with
  |none=>rw[e] at this;have q:cm x=none:=this;have p':Vg c (cm x) V1:=p;rw[q] at p';exact p'
  |some a=>rw[e] at this;obtain ⟨v,e1,r⟩:=this;have p':Vg c (cm x) V1:=p;rw[e1] at p';exact⟨v,r.mono hp Le.rfl,p'⟩
theorem Q7.kinds {K:Frag}{fn:Fn}{fd:fL}{vs:List h_}(F:Q7 K fn fd) (hl:Vy fn.sc fn.ps=true) (hv:vs.length=fn.ps.length) {L:Addr}:∀x∈gH fn.ps vs,fd.scope.names.lookup x.1=some .local\/(fd.scope.names.lookup x.1=some .cell/\((cellsFrom L fd.scope.names []).lookup x.1).isSome=true):=fun x hx=>by
 have hm:x.1∈fn.ps:=SP hv▸bA hx
 have:=gu.mp hl x.1 hm
 rw[F.sc,Vf]
 cases q:lk fn.sc.names x.1 with
 |none=>rw[q] at this;cases this
 |some k=>
  rw[q] at this
  cases k with
  | «local»=>exact .inl rfl
  |cell=>exact .inr ⟨rfl,Ma ((congrArg (fun z=>(lk (z.map fun y=>(y,())) x.1).isSome) Wr).trans this)⟩
  |_=>cases this
theorem U7 {f:Addr}{fn:Fn}{as:List AV}{H:List AO}{ρ:List Addr}{B V:Part}{F:List (Part->Prop)}{vs:List h_}{A:gY}{h:Heap}{Q X:h_->Heap->Prop}(ok:Q6 G f fn) (hlen:as.length=fn.ps.length) (hex:fn.ex= []) (hl:Vy fn.sc fn.ps=true)
  (hd:distinct (cellsOf fn.sc.names [])=true) (hA:Rm (n+1) A) (r:ZT ρ B as vs) (XD:ρ.length=H.length) (O:C2 G.hS B V h) (p:Z0 (parts B ρ ρ H++F) V)
  (x:∀{{env:Env}} {{ω:Wd}} {{m:Str->Option h_}} {{ZU:Heap}},Zb (KX fn H.length) env ω.ρ->env.frame=some env.locals->Wd.le ⟨ρ,B⟩ ω->ω.ρ.length=(H++WX fn.sc fn.ps as).length->YS ω (Jc fn.sc fn.ps as) m->
   SS G.hS ω.B env.locals m (parts ω.B ω.ρ ω.ρ (H++WX fn.sc fn.ps as)++F) ZU->W G.prog G.w (A.deeper env) (fY fn.body env) (fun fl=>Q (nO fl)) (fun e=>W G.prog G.w (A.deeper env) («leaving» env e) (fun _=>X e) X) ZU):
  WC G.prog G.w A (.call (.ref f) ⟨vs,[]⟩) Q X h:=fun s RR hs g gx=>by
 subst hs
 obtain ⟨o,fd,e1,e2,D⟩:=ok
 have hv:vs.length=fn.ps.length:=(ZT.length r).trans hlen
 obtain ⟨bx,_,_,b2,_⟩:=D.bn vs hv
 have Z8:∀a o,G.hS.get? a=some o->s.heap.get? a=some o:=fun a o e=>O.keep a o (O.st a o e)
 refine codeAny_call_cells hA.room (G.Z.k.keeps Z8 _ _ e1) e2 (G.Z.nolimit.keeps Z8) (codeRec_of (G.Z.k.keeps Z8) D.ci) D.bd (b2 hex) D.cl (D.kinds hl hv) (fun Uq ri=> ?_) (D.sc▸D.co) (D.sc▸D.gen) D.fk
 obtain ⟨⟨⟨ZU,tk,rfl⟩,ns,keep,fresh⟩,cell,apart,above⟩:=ri
 generalize he:callEnvC fd s.heap.objs.size f=env at*
 have Fc:env.cells.map (·.1)=cellsOf fn.sc.names []:=by rw[<-he,<-D.sc];exact Wr
 have hkf:∀x,env.kindOf x=lk fn.sc.names x:=fun x=>by rw[<-he,<-D.sc];exact Vf
 have hL:env.locals=s.heap.objs.size:=by rw[<-he];rfl
 have hE:Zb (KX fn H.length) env (ρ++env.cells.map (·.2)):=by
  have q:(env.scope=fd.scope/\env.globals=fd.globals/\env.builtins=fd.builtins)/\env.code=fd.code/\env.qual=fd.qualname++ ".<locals>." :=by rw[<-he];exact⟨⟨rfl,rfl,rfl⟩,rfl,rfl⟩
  exact⟨q.1.1.trans D.sc,D.kind,q.1.2.1.trans D.gl,q.1.2.2.trans D.bl,fun x i z=>Tw (Fc▸z) XD (Fc▸XY hd),fun c t z=>⟨q.2.1.trans (D.cd c t z).1,q.2.2.trans (D.cd c t z).2⟩⟩
 have hfr:env.frame=some env.locals:=by rw[<-he];rfl
 have S:Zs G.hS B env.locals (bindL env.kindOf (gH fn.ps vs) fun _=>none) V ZU:=
  ⟨O.st,fun a o e=>keep a o (O.keep a o e),fun a o e=>keep a o (O.YW a o e),ns,O.vb,UP O.YW (Nat.le_of_eq hL.symm),UP O.keep (Nat.le_of_eq hL.symm)⟩
 obtain ⟨V',S',p',_⟩:=adopt (cm:=bindC env.kindOf (gH fn.ps vs) fun _=>none) env.cells S p (fun x hx=>cell x.1 x.2 (Wf (Fc▸XY hd) hx)) apart fun x hx=>
  have ha:=above x.1 x.2 hx
  ⟨UP O.YW (hL▸Nat.le_of_lt ha),UP O.keep (hL▸Nat.le_of_lt ha),bU ha⟩
 have L_:Wd.le ⟨ρ,B⟩ ⟨ρ++env.cells.map (·.2),B⟩:=⟨fC _ _,Le.rfl⟩
 have ec:WX fn.sc fn.ps as=(env.cells.map (·.1)).map fun x=>AO.cell (lk (KY fn.sc fn.ps as) x):=congrArg _ Fc.symm
 refine(x hE hfr L_ ?_ ((QH (ω:=⟨ρ,B⟩) hkf hv.symm r .nil).up L_) ⟨V',S',?_⟩).go (fun fl ZO tk y=>g _ ZO tk y) fun e ZO tk y=>y.go (fun _ X8 tk z=>gx _ X8 tk z) fun _ X8 tk z=>gx _ X8 tk z
 ·rw[ec,gA,gA,gn,gn,gn,XD]
 ·rw[ec,Yr XD,gG]
  have q:=Z0.Sk (Tv (QG (ω:=⟨ρ,B⟩) hkf hv.symm r fun _=>rfl) (ρ++env.cells.map (·.2)) L_.1 p')
  rw[gG] at q
  exact Z0.Nk (fun a o V z=>Y3.mono L_.1 Le.rfl z) ρ H (Z0.Fd q)
theorem Jb {f:Addr}{fn:Fn}{as:List AV}{K:AV->St->Prop}(ok:Q6 G f fn) (hlen:as.length=fn.ps.length) (hex:fn.ex= []) (hl:Vy fn.sc fn.ps=true) (hd:distinct (cellsOf fn.sc.names [])=true)
  (x:X0 G n (KX fn σ.hp.length) fn.body ⟨Jc fn.sc fn.ps as,σ.hp++WX fn.sc fn.ps as,σ.os⟩ (fun fl ZH=>K (VS fl) ⟨σ.loc,ZH.hp,ZH.os⟩) fun _ _=>False):P4 G (n+1) f as σ K X:=fun L fs ω vs r A h hA R=>by
 obtain ⟨m,lm,R'⟩:=R
 obtain ⟨V,O,p⟩:=R'.ss.outer
 refine U7 (F:=frames (Nl.NC L m::fs)) ok hlen hex hl hd hA.rm r R'.len O (Z0.Yo p) fun env Zw m₁ ZU he hf L_ len OR S=> ?_
 refine(x (fs:=Nl.NC L m::fs) he (Wu.deeper (m:=m) hA he.kd hf rfl) ⟨m₁,OR,len,S⟩).mono (fun fl ZO y=> ?_) fun _ _ y=>y.no
 obtain ⟨Fe,ZH,Nf,k,l',⟨m₂,C3,Zg⟩,rf⟩:=y
 exact⟨VS Fe,_,Nf,k,L_.trans l',⟨m,lm.up (L_.trans l'),Zg.len,(Zg.ss.YT fun V hV=>Z0.YK hV).P5⟩,P0 rf⟩
theorem Rel.Z8 {L:Addr}{ω:Wd}{fs:Frs}{h:Heap}(R:Rel G L ω σ fs h):∀a o,G.hS.get? a=some o->h.get? a=some o:=let ⟨_,_,R⟩:=R;R.ss.Z8
inductive kC (G:Gm) (L:Addr) (ω:Wd) (σ:St) (fs:Frs) (h:Heap) (i:Nat) (o:AO) (u:h_):Prop
 |mk (a:Addr) (m:Str->Option h_) (rest:List (Part->Prop)) (e:u= .ref a) (S:SS G.hS ω.B L m (Y3 ω.ρ ω.B a o::rest) h) (k:∀o' h',SS G.hS ω.B L m (Y3 ω.ρ ω.B a o'::rest) h'->Rel G L ω {σ with hp:=σ.hp.set i o'} fs h')
inductive ku (G:Gm) (L:Addr) (ω:Wd) (σ:St) (fs:Frs) (h:Heap):Prop
 |mk (m:Str->Option h_) (cs:List (Part->Prop)) (S:SS G.hS ω.B L m cs h) (new:∀a o h',SS G.hS ω.B L m (Y3 (ω.ρ++ [a]) ω.B a o::cs) h'->Rel G L ⟨ω.ρ++ [a],ω.B⟩ {σ with hp:=σ.hp++ [o]} fs h'/\RV ⟨ω.ρ++ [a],ω.B⟩ (.loc σ.hp.length) (.ref a))
  (same:∀h',SS G.hS ω.B L m cs h'->Rel G L ω σ fs h') (Q5:∀a o h',SS G.hS ω.B L m (At a o::cs) h'->∃B',Le ω.B B'/\B' a=some o/\Rel G L ⟨ω.ρ,B'⟩ σ fs h')
theorem Rel.at {L:Addr}{ω:Wd}{fs:Frs}{h:Heap}{i:Nat}{o:AO}{u:h_}(R:Rel G L ω σ fs h) (hi:σ.hp[i]?=some o) (r:RV ω (.loc i) u):
  kC G L ω σ fs h i o u:=by
 obtain ⟨m,l,R⟩:=R
 obtain ⟨a,rest,e,S,_,k⟩:=R.at hi
 obtain ⟨a',e',rfl⟩:=r
 obtain rfl:a'=a:=by rw[e] at e';exact(gj e').symm
 exact⟨a',m,rest,rfl,S,fun o' h' S'=>⟨m,l,k o' m h' S'⟩⟩
theorem Rel.same {L:Addr}{ω:Wd}{fs:Frs}{h:Heap}{i:Nat}{o:AO}(hi:σ.hp[i]?=some o) (R:Rel G L ω {σ with hp:=σ.hp.set i o} fs h):Rel G L ω σ fs h:=by
 have:σ.hp.set i o=σ.hp:=by
  obtain ⟨hlt,e⟩:=fD.mp hi
  rw[<-e];exact List.set_getElem_self hlt
 rw[this] at R;exact R
theorem Rel.cs {L:Addr}{ω:Wd}{fs:Frs}{h:Heap}(R:Rel G L ω σ fs h):ku G L ω σ fs h:=by
 obtain ⟨m,l,R⟩:=R
 refine⟨m,_,R.ss,fun a o h' S=>⟨⟨m,YS.up (Zw:=⟨ω.ρ++ [a],ω.B⟩) ⟨fC _ _,Le.rfl⟩ l,P9.push R.len S⟩,a,?_,rfl⟩,fun h' S=>⟨m,l,R.len,S⟩,fun a o h' S=> ?_⟩
 ·rw[<-R.len];simp
 ·obtain ⟨B',k,e,S⟩:=S.freeze
  exact⟨B',k,e,m,YS.up (ω:=ω) (Zw:=⟨ω.ρ,B'⟩) ⟨cJ _,k⟩ l,⟨R.len,S.YT fun V=>XM (cJ _) k⟩⟩
theorem Wd.le.new {ω:Wd}{a:Addr}:ω.le ⟨ω.ρ++ [a],ω.B⟩:=⟨fC _ _,Le.rfl⟩
theorem Wd.le.kept {ω:Wd}{B':Part}(k:Le ω.B B'):ω.le ⟨ω.ρ,B'⟩:=⟨cJ _,k⟩
def Vx (e:Expr):Bool:=Ye 16 e true fun h=> @cI (fun _=>Bool) e h fun f a k _=> !(gZ f.ctorIdx 23 && a.isEmpty && k.isEmpty)
theorem XI {o:Expr}{attr:Str}{env:Env}{x:Sem h_}(h:Vx o=true):attributeBase o attr env x=x:=by
 cases o with
 |Call f a k p=>cases f with
  |Name i q=>cases a with
   |nil=>cases k with
    |nil=>cases h
    |cons=>rfl
   |cons=>rfl
  |_=>rfl
 |_=>rfl
theorem Br {value:Expr}{attr:Str}{pos:Pos}{K:AV->St->Prop}(x:Zd G n Φ value σ (fun a Z4=>Q9 G n RV (fun u=>getAttr u attr true) a Z4 K X) X) (hs:Vx value=true):Zd G n Φ (.Attribute value attr pos) σ K X:=fun env ω fs he A h hA R=>
 JB ((x he hA R).mono (fun u ZU ⟨a,Z4,ZR,k,ZX,ZK,Zx⟩=>(k Zx hA ZK).mono (fun _ _ p=>p.up ZX) fun _ _ p=>p.up ZX) fun _ _ p=>p) (by rw[arm_eval_Attribute,XI hs])
theorem yb {i:Nat}{C:Addr}{fs:List (Str×AV)}{x:Str}{a:AV}{K:AV->St->Prop}(hi:σ.hp[i]?=some (.inst C fs)) (hx:lk fs x=some a) (hr:Xj G.K C x=true) (q:K a σ):Q9 G n RV (fun u=>getAttr u x true) (.loc i) σ K X:=fun L fr ω u r A h hA R=>by
 obtain ⟨ad,m,rest,rfl,S,back⟩:=R.at hi r
 obtain ⟨f,S⟩:=S.ex
 obtain ⟨F,S⟩:=S.fact
 have e:=F x
 rw[hx] at e
 obtain ⟨v,e1,r1⟩:=e
 exact yw G.Z S hr e1 (Rep.handed r1) (R.here r1 q)
theorem JM.put {ρ:List Addr}{B:Part}{fs:List (Str×AV)}{f:Str->Option h_}(F:JM ρ B fs f) {x:Str}{a:AV}{v:h_}(r:Rep ρ B a v):JM ρ B (Mine.put fs x a) (upd f x (some v)):=fun y=>by
 rw[Qd]
 by_cases q:y=x
 ·subst q;rw[if_pos rfl,Z6];exact⟨v,rfl,r⟩
 ·rw[if_neg q,Z2 q];exact F y
theorem Bq {i:Nat}{C:Addr}{fs:List (Str×AV)}{x:Str}{a:AV}{K:St->Prop}(hi:σ.hp[i]?=some (.inst C fs)) (hr:YD G.K C x=true) (hk:gK fs.length 900=true) (q:K {σ with hp:=σ.hp.set i (.inst C (Mine.put fs x a))}):
  Nj G n RU (fun u v=>fj u x v) (.loc i) a σ (fun _=>K) X:=fun L fr ω u v r r2 A h hA R=>by
 obtain ⟨ad,m,rest,rfl,S,back⟩:=R.at hi r
 obtain ⟨f,S⟩:=S.ex
 obtain ⟨F,S⟩:=S.fact
 have hlen:fs.length<1000:=aG (gp hk) (by decide)
 have e:=F x
 have fin:∀h',SS G.hS ω.B L m (VW ad C (Mine.put fs x a).length (upd f x (some v))::rest) h'->PG G RU L fr ω (fun _=>K) () h':=fun h' S'=>by
  exact⟨(),_,ω,q,.rfl,back _ h' (S'.conv fun V hV=>⟨_,F.put r2,hV⟩),trivial⟩
 cases h0:lk fs x with
 |none=>
  have:(Mine.put fs x a).length=fs.length+1:=by rw[Qc,h0];rfl
  rw[this] at fin
  exact Jt G.Z S hr fin hlen
 |some b=>
  rw[h0] at e
  obtain ⟨w,e1,_⟩:=e
  have:(Mine.put fs x a).length=fs.length:=by rw[Qc,h0];rfl
  rw[this] at fin
  exact Ju G.Z S hr e1 fin hlen
def L8 (B:Part) (f:h_):Prop:=∀(M:Model) (h:Heap),(∀a o,B a=some o->h.get? a=some o)->∃k,(k=Keeper.frame\/k=Keeper.machine\/k=Keeper.boundFrame)/\Looks M h (keeperOf f) k
theorem Kept.part {hS:Heap}{B:Part}{f:h_}(x:Kept hS f) (k:∀a o,hS.get? a=some o->B a=some o):L8 B f:=fun M h q=>x M h fun a o e=>q _ _ (k _ _ e)
def YC (G:Gm) (f:AV):Prop:=∀{{ω:Wd}} {{v:h_}},(∀a o,G.hS.get? a=some o->ω.B a=some o)->RV ω f v->L8 ω.B v
theorem YC.Z8 {v:h_}(h:gw G.K v=true):YC G (.Z8 v):=fun _ _ k r=>by rw[show _=v from r.1];exact(Kept.of_K G.Z h).part k
theorem YC.bi {b:BI}:YC G (.bi b):=fun _ _ k r=>by
 rw[show _=C6 b from r]
 cases b<;>first|exact Kept.builtin.part k|exact Kept.type.part k
theorem YC.YV {ps:List Str}{body:Expr}{sc:gQ}{cl:List (Str×Nat)}:YC G (.YV ps body sc cl):=fun _ _ k r=>by
 obtain ⟨a,fd,e,h,_⟩:=r
 subst e
 exact fun M h' q=>⟨.frame,.inl rfl,(Looks.ld (part:=none) (q _ _ h.1)).andThen .now⟩
section
variable {prog:gP}{w:g8}{A:gY}{env:Env}{B:Part}{h:Heap}{X:h_->Heap->Prop}
theorem Bp {pos:Pos}{f:h_}{first:List h_}{Q:h_->Heap->Prop}(hk:L8 B f) (S:∀a o,B a=some o->h.get? a=some o) (x:W prog w A (call f (first++ [])) Q X h):
  W prog w A (eZ pos f first (gv pos (gF [] env)) []) Q X h:=fun s Q' E hs k kx=>by
 subst hs
 exact callWith_of (P:=fun h=>∀a o,B a=some o->h.get? a=some o) rfl (fun h hp=>hk _ h hp) (evalArgs_nil3 ⟨S,x s _ E rfl k kx⟩)
theorem ya {pos:Pos}{f:h_}{first:List h_}{e:Expr}{rest:List Expr}{Q:h_->Heap->Prop}(hk:L8 B f)
  (x:W prog w A (spliced (gv pos (gF (e::rest) env))) (fun vs ZU=>(∀a o,B a=some o->ZU.get? a=some o)/\W prog w A (call f (first++vs)) Q X ZU) X h)
  (he:gF (e::rest) env=(false,eval e env)::gF rest env) (hplain:(gv pos (gF rest env)).any (·.1)=false):
  W prog w A (eZ pos f first (gv pos (gF (e::rest) env)) []) Q X h:=fun s Q' E hs k kx=>by
 have y:=x s (fun vs Uq=>(∀a o,B a=some o->Uq.heap.get? a=some o)/\gW (gO prog w) A (call f (first++vs)) Q' E Uq) E hs (fun vs ZU tk z=>⟨z.1,z.2.go k kx⟩) kx
 rw[he] at y ⊢
 refine callWith_of (P:=fun h=>∀a o,B a=some o->h.get? a=some o) (by show ((false||(gv pos (gF rest env)).any (·.1))||false)=false;rw[hplain];rfl) (fun h hp=>hk _ h hp) (evalArgs_plain y)
end
theorem Rel.Vd {L:Addr}{ω:Wd}{fs:Frs}{h:Heap}(R:Rel G L ω σ fs h):∀a o,ω.B a=some o->h.get? a=some o:=let ⟨_,_,R'⟩:=R;let ⟨_,S,_⟩:=R'.ss;S.keep
theorem Rel.yo {L:Addr}{ω:Wd}{fs:Frs}{h:Heap}(R:Rel G L ω σ fs h):∀a o,G.hS.get? a=some o->ω.B a=some o:=let ⟨_,_,R'⟩:=R;R'.ss.yo
def Up (e:Expr):Bool:=gZ e.ctorIdx 20
theorem PZ {func:Expr}{args:List Expr}{pos:Pos}{env:Env}(h:Up func=false):eval (.Call func args [] pos) env=(do eZ pos (<-eval func env) [] (gv pos (gF args env)) (backToKw pos (keywordEach [] env))):=by
 cases func<;>first|rfl|cases h
def UO (G:Gm) (n:Nat) (Φ:Fm) (args:List Expr) (σ:St) (K:List AV->St->Prop) (X:XK):Prop:=match args with| []=>K [] σ|e::r=>SR G n Φ (e::r) σ K X
theorem Ja {first:List AV}{fv:h_}{nN:List h_}{fA:AV}{args:List Expr}{pos:Pos}{K:AV->St->Prop}{env:Env}{ω:Wd}{fs:Frs}{A:gY}{h:Heap}(he:Zb Φ env ω.ρ) (hA:Wu n A env.locals fs) (R:Rel G env.locals ω σ fs h) (hk:YC G fA) (rf:RV ω fA fv) (tC:Xn ω first nN)
  (ha:args.any ZD=false) (x:UO G n Φ args σ (fun as Z4=>Ve G n fA (first++as) Z4 K X) X):
  W G.prog G.w A (eZ pos fv nN (gv pos (gF args env)) []) (PG G RV env.locals fs ω K) (PG G RV env.locals fs ω X) h:=by
 have hK:=hk R.yo rf
 cases args with
 |nil=>
  exact Bp hK R.Vd (x rf (ZT.append (by rfl) tC) hA R)
 |cons e rest=>
  rw[dh,bC] at ha
  exact ya hK ((x pos he hA R).mono (fun vs ZU ⟨as,Z4,ZR,k₁,ZX,ZK,Zx⟩=>⟨fun a o e=>ZK.Vd a o (ZX.2 a o e),(k₁ (rf.up ZX) (ZT.append Zx (tC.up ZX)) hA ZK).mono (fun _ _ p=>p.up ZX) fun _ _ p=>p.up ZX⟩) fun _ _ p=>p) (WR ha.1) (Xe ha.2 pos)
theorem PY {func:Expr}{args:List Expr}{pos:Pos}{K:AV->St->Prop}(x:Zd G n Φ func σ (fun f Z4=>YC G f/\UO G n Φ args Z4 (fun as ZW=>Ve G n f as ZW K X) X) X) (hf:Up func=false) (ha:args.any ZD=false):Zd G n Φ (.Call func args [] pos) σ K X:=fun env ω fs he A h hA R=>
 BQ ((x he hA R).mono (fun fv ZU ⟨f,Z4,ZR,⟨hk,k⟩,ZX,ZK,Zx⟩=>(Ja (first:= []) (he.up ZX) hA ZK hk Zx rfl ha k).mono (fun _ _ p=>p.up ZX) fun _ _ p=>p.up ZX) fun _ _ p=>p) (PZ hf)
def C1 (G:Gm) (n:Nat) (a:AV) (name:Str) (σ:St) (f:AV) (first:List AV):Prop:=
 ∀{{L:Addr}} {{fs:Frs}} {{ω:Wd}} {{u:h_}} {{pl:Sem Bool}} {{A:gY}} {{h:Heap}},RV ω a u->Wu n A L fs->Rel G L ω σ fs h->∀{{Q:h_×List h_->Heap->Prop}} {{X':h_->Heap->Prop}},(∀fv vs,RV ω f fv->Xn ω first vs->Q (fv,vs) h)->W G.prog G.w A (getMethod u name pl) Q X' h
def PX (args:List Expr) (apos pos:Pos):Bool:= !(args.any ZD) && gK args.length 20 && gZ apos.endLine pos.line
theorem PW {o:Expr}{name:Str}{apos pos:Pos}{args:List Expr}{env:Env}(hs:Vx o=true) (hm:PX args apos pos=true):eval (.Call (.Attribute o name apos) args [] pos) env=(do
   let ov<-eval o env
   standAt apos.atName
   let (f,first)<-holding [ov] (getMethod ov name (do return (<-importBound o env).getD true))
   eZ pos f first (gv pos (gF args env)) []):=by
 unfold PX at hm
 obtain ⟨hm,h3⟩:=g6.mp hm
 obtain ⟨h1,h2⟩:=g6.mp hm
 have x_:args.any ZD=false:=by simpa using h1
 have h3':apos.endLine=pos.line:=e_ h3
 have h2':args.length<=20:=gp h2
 rw[arm_eval_Call,XI hs]
 have hf:methodCallForm (args.length+([]:List (Option Str×Expr)).length) (gv pos (gF args env)) (backToKw pos (keywordEach [] env))=true:=by
  unfold methodCallForm
  have e1:(gv pos (gF args env)).all (fun x=> !x.1)=true:=by
   rw[List.all_eq_not_any_not]
   have:=Xe (env:=env) x_ pos
   simp only[Bool.not_not];rw[this];rfl
  rw[e1]
  show (true && true && decide (args.length+0+0<30))=true
  simp;omega
 have key:∀ov,methodCall o name apos pos env ov (args.length+([]:List (Option Str×Expr)).length) (gv pos (gF args env)) (backToKw pos (keywordEach [] env))=(do
   let (f,first)<-holding [ov] (getMethod ov name (do return (<-importBound o env).getD true))
   eZ pos f first (gv pos (gF args env)) []):=fun ov=>by
  unfold methodCall
  rw[hf]
  have:methodCallPos true o env apos pos=pure pos:=by unfold methodCallPos;rw[h3'];simp
  rw[this]
  rfl
 exact congrArg (fun f=>eval o env>>=f) (funext fun ov=>congrArg (fun g=>standAt apos.atName>>=g) (funext fun _=>key ov))
theorem Bo {o:Expr}{name:Str}{apos pos:Pos}{args:List Expr}{K:AV->St->Prop}(x:Zd G n Φ o σ (fun a Z4=>∃f first,YC G f/\C1 G n a name Z4 f first/\UO G n Φ args Z4 (fun as ZW=>Ve G n f (first++as) ZW K X) X) X)
  (hs:Vx o=true) (hm:PX args apos pos=true) (ha:args.any ZD=false):Zd G n Φ (.Call (.Attribute o name apos) args [] pos) σ K X:=fun env ω fs he A h hA R=>
 Fq ((x he hA R).mono (fun ov ZU ⟨a,Z4,ZR,⟨f,first,hk,mt,k⟩,ZX,ZK,Zx⟩=>mt Zx hA ZK fun fv vs rf tC=>(Ja (he.up ZX) hA ZK hk rf tC ha k).mono (fun _ _ p=>p.up ZX) fun _ _ p=>p.up ZX) fun _ _ p=>p) (PW hs hm)
theorem Fb {i:Nat}{C f:Addr}{fs:List (Str×AV)}{x:Str}(hi:σ.hp[i]?=some (.inst C fs)) (hx:lk fs x=none) (hr:W3 G.K C x f=true) (hh:dM (.ref f)=true:=by rfl):C1 G n (.loc i) x σ (.Z8 (.ref f)) [.loc i]:=fun L fr ω u pl A h r hA R Q X' q=>by
 obtain ⟨ad,m,rest,rfl,S,back⟩:=R.at hi r
 obtain ⟨g,S⟩:=S.ex
 obtain ⟨F,S⟩:=S.fact
 have e:=F x
 rw[hx] at e
 exact O1 G.Z S hr e (q _ _ ⟨rfl,hh⟩ ⟨_,[],rfl,r,rfl⟩)
theorem Wu.make {A:gY}{L:Addr}{fs:Frs}{C:Addr}{vs:List h_}(a:Wu (n+1) A L fs):Wu n (A.under (.builtin "type.__call__" ⟨.ref C::vs,[]⟩)) L fs:=⟨a.rm.make,by obtain ⟨l,e,k⟩:=a.fr;exact⟨l,e,k⟩⟩
theorem Bm {C fI:Addr}{as:List AV}{K:AV->St->Prop}(c:Ws G.K C fI=true) (x:P4 G n fI (.loc σ.hp.length::as) ⟨σ.loc,σ.hp++ [.inst C []],σ.os⟩ (fun a ZH=>a= .d .none/\K (.loc σ.hp.length) ZH) X):P4 G (n+1) C as σ K X:=fun L fs ω vs r A h hA R=>by
 obtain ⟨m,cs,S,new,_,_⟩:=R.cs
 refine BJ G.Z S c fun ad h' S'=> ?_
 obtain ⟨R',r'⟩:=new ad (.inst C []) h' (S'.conv fun V hV=>⟨fun _=>none,fun y=>rfl,hV⟩)
 refine(x ⟨_,_,rfl,r',Xn.up .new r⟩ hA.make R').mono (fun v ZO ⟨a,ZH,Zw,⟨e,k⟩,l',Zg,Yx⟩=> ?_) fun _ _ p=>p.up .new
 subst e
 refine⟨by unfold RV Rep Y8 at Yx;exact Yx,_,ZH,Zw,k,Wd.le.new.trans l',Zg,RV.up l' r'⟩
theorem SS.Nd {hS h h':Heap}{B:Part}{L:Addr}{m:Str->Option h_}{cs:List (Part->Prop)}{P:Part->Prop}(S:SS hS B L m cs h) (hk:∀a o,h.get? a=some o->h'.get? a=some o) (V0:Part) (fresh:∀b,V0 b≠none->h.get? b=none)
  (hv:∀b o,V0 b=some o->h'.get? b=some o) (p:P V0):SS hS B L m (P::cs) h':=by
 obtain ⟨V,S,q⟩:=S
 have S0:=S.keeps hk
 have dV:∀a,V0 a≠none->V a=none:=fun a ha=>by
  cases e:V a with
  |none=>rfl
  |some o=>have:=S.YW _ _ e;rw[fresh a ha] at this;cases this
 have dB:∀a,V0 a≠none->B a=none:=fun a ha=>by
  cases e:B a with
  |none=>rfl
  |some o=>have:=S.keep _ _ e;rw[fresh a ha] at this;cases this
 have lL:V0 L=none:=by
  cases e:V0 L with
  |none=>rfl
  |some o=>obtain ⟨oL,_,_,eL,_⟩:=S.loc;rw[fresh L (by rw[e];exact fun z=>nomatch z)] at eL;cases eL
 refine⟨Xi V0 V,⟨S0.st,S0.keep,fun a o e=> ?_,S0.loc,fun a o e=> ?_,Yw lL S0.vl,S0.bl⟩,V0,V,dV,WY,Wg dV,p,q⟩
 ·unfold Xi at e
  cases q:V0 a with
  |none=>rw[q] at e;exact S0.YW _ _ e
  |some o'=>rw[q] at e;cases e;exact hv _ _ q
 ·unfold Xi at e
  cases q:V0 a with
  |none=>rw[q] at e;exact S0.vb _ _ e
  |some o'=>exact dB a (by rw[q];exact fun z=>nomatch z)
end
section
variable {G:Gm}{n:Nat}
theorem KW {f:Addr}{fn:Fn}{as:List AV}{H:List AO}{ρ:List Addr}{B V0:Part}{vs:List h_}{A:gY}{h:Heap}{K:Zk->St->Prop}{Q:h_->Heap->Prop}{X:h_->Heap->Prop}
  (ok:Q6 G f fn) (hlen:as.length=fn.ps.length) (hex:fn.ex= []) (hl:Vy fn.sc fn.ps=true) (hd:distinct (cellsOf fn.sc.names [])=true)
  (hA:Rm (n+1) A) (hfr:A.frames=some []) (r:ZT ρ B as vs) (rg:ρ.length=H.length) (hst:∀a o,G.hS.get? a=some o->B a=some o) (hB:∀a o,B a=some o->h.get? a=some o) (hV:∀a o,V0 a=some o->h.get? a=some o) (kq:∀a o,V0 a=some o->B a=none)
  (p0:Z0 (parts B ρ ρ H) V0)
  (x:X0 G n (KX fn H.length) fn.body ⟨Jc fn.sc fn.ps as,H++WX fn.sc fn.ps as,[]⟩ K fun _ _=>False)
  (g:∀fl ZH Zw L h' u,K fl ZH->(⟨ρ,B⟩:Wd).le Zw->Rel G L Zw ZH [] h'->RV Zw (VS fl) u->Q u h'):W G.prog G.w A (call (.ref f) vs) Q X h:=by
 refine WC.call (U7 (F:= []) ok hlen hex hl hd hA r rg ⟨hst,hB,hV,kq⟩ (by rw[gE];exact p0) fun env Zw m₁ ZU he hf L_ len OR S=> ?_)
 refine(x (fs:= []) he ⟨hA.deeper,_,bB hfr,fun env' h'=> ?_⟩ ⟨m₁,OR,len,S⟩).mono (fun fl ZO y=> ?_) fun _ _ y=>y.no
 ·rcases gy.mp h' with rfl|h'
  ·exact⟨he.kd,hf,.inl rfl⟩
  ·cases h'
 ·obtain ⟨Fe,ZH,Nf,k,l',Zg,rf⟩:=y
  exact g Fe ZH Nf _ ZO _ k (L_.trans l') Zg (P0 rf)
end
def ZC:AO->Option (List AV)| .list l=>some l| .Z_ l=>some (l.map fun i=> .d (.int i))|_=>none
theorem Sj {ρ:List Addr}{B:Part}:∀{l:List D}{vs:List h_},ZT ρ B (l.map .d) vs->ZE B l vs
 | [],_,h=>by unfold ZE;exact h
 |x::l,_,⟨v,r,e,a,b⟩=>by unfold ZE;exact⟨v,r,e,a,Sj b⟩
theorem Xm {ρ:List Addr}{B:Part}{a:Addr}{o:AO}{l:List AV}{V:Part}(h:ZC o=some l):Y3 ρ B a o V↔∃vs,ZT ρ B l vs/\V9 a vs V:=by
 cases o with
 |list l'=>cases h;exact Iff.rfl
 |Z_ l'=>
  cases h
  have e:(l'.map fun i=>AV.d (.int i))=(l'.map D.int).map AV.d:=by rw[List.map_map];rfl
  rw[e]
  exact⟨fun⟨vs,x,y⟩=>⟨vs,ZE.Sm x,y⟩,fun⟨vs,x,y⟩=>⟨vs,Sj x,y⟩⟩
 |_=>cases h
def Te {α β:Type}(f:α->Option β):List α->Option (List β)
 | []=>some []
 |x::r=>match f x with|some b=>(match Te f r with|some l=>some (b::l)|none=>none)|none=>none
inductive E_ {α β:Type}(f:α->Option β):List α->List β->Prop
 |nil:E_ f [] []
 |cons {x:α}{b:β}{r:List α}{l:List β}(e:f x=some b) (t:E_ f r l):E_ f (x::r) (b::l)
theorem UN {α β:Type}{f:α->Option β}{l:List α}:∀{m:List β},Te f l=some m->E_ f l m:=by
 induction l with
 |nil=>intro m h;cases h;exact .nil
 |cons x r ih=>
  intro m h
  unfold Te at h
  cases e:f x with
  |none=>rw[e] at h;cases h
  |some b=>
   rw[e] at h
   cases e':Te f r with
   |none=>rw[e'] at h;cases h
   |some l=>rw[e'] at h;cases h;exact .cons e (ih e')
def x9:AV->Option Int| .d (.int i)=>some i|_=>none
def q_:AV->Option Bool| .d (.bool i)=>some i|_=>none
def x8:AV->Option Str| .d (.str i)=>some i|_=>none
def x7:AV->Option D| .d i=>some i|_=>none
theorem PV {a:AV}{i:D}(h:x7 a=some i):a= .d i:=by cases a<;>cases h;rfl
theorem VR {a:AV}{i:Int}(h:x9 a=some i):a= .d (.int i):=by
 cases a with
 |d x=>cases x<;>cases h;rfl
 |_=>cases h
theorem I_ {a:AV}{i:Bool}(h:q_ a=some i):a= .d (.bool i):=by
 cases a with
 |d x=>cases x<;>cases h;rfl
 |_=>cases h
theorem PU {a:AV}{i:Str}(h:x8 a=some i):a= .d (.str i):=by
 cases a with
 |d x=>cases x<;>cases h;rfl
 |_=>cases h
abbrev allI:List AV->Option (List Int):=Te x9
theorem KV {l:List AV}{is:List Int}(h:allI l=some is):l=is.map fun i=> .d (.int i):=by
 have m:=UN h
 clear h
 induction m with
 |nil=>rfl
 |cons e _ ih=>exact congr (congrArg List.cons (VR e)) ih
def tB (l:List AV):AO:=match allI l with|some is=> .Z_ is|none=> .list l
theorem Nc {l:List AV}:ZC (tB l)=some l:=by
 unfold tB
 cases e:allI l with
 |none=>rfl
 |some is=>rw[KV e];rfl
def I9 (l:List Int):AV->AO
 | .d (.int i)=> .Z_ (l++ [i])
 |a=> .list ((l.map fun i=> .d (.int i))++ [a])
def KU:AO->AV->AO
 | .Z_ l,a=>I9 l a
 | .list l,a=> .list (l++ [a])
 |o,_=>o
theorem OQ {o:AO}{a:AV}{l:List AV}(h:ZC o=some l):ZC (KU o a)=some (l++ [a]):=by
 cases o with
 |list l'=>cases h;rfl
 |Z_ l'=>
  cases h
  show ZC (I9 l' a)=_
  unfold I9
  split
  ·show some _=_;rw[c6];rfl
  ·rfl
 |_=>cases h
def Za:AO->Nat| .list l=>l.length| .Z_ l=>l.length|_=>0
theorem YZ {o:AO}{l:List AV}(h:ZC o=some l):Za o=l.length:=by
 cases o with
 |list l'=>cases h;rfl
 |Z_ l'=>cases h;show l'.length=_;rw[gn]
 |_=>cases h
def YF:AO->Nat->AV| .list l,i=>l.getD i .any| .Z_ l,i=> .d (.int (l.getD i 0))|_,_=> .any
theorem E9 {o:AO}{l:List AV}(h:ZC o=some l) {i:Nat}(hi:i<l.length):l[i]?=some (YF o i):=by
 cases o with
 |list l'=>cases h;show l'[i]?=some (l'.getD i AV.any);rw[fG,f9 hi];rfl
 |Z_ l'=>
  cases h
  rw[gn] at hi
  show (l'.map fun i=>AV.d (.int i))[i]?=some (AV.d (.int (l'.getD i 0)))
  rw[d8,fG,f9 hi];rfl
 |_=>cases h
def Vc:AO->Bool| .list _=>true| .Z_ _=>true|_=>false
theorem Xx {o:AO}(h:Vc o=true):∃l,ZC o=some l:=by
 cases o<;>first|exact⟨_,rfl⟩|cases h
def Si (len:Nat):Option Int->Nat|none=>0|some i=>match decide (i<0) with|true=>(i+len).toNat|false=>min i.toNat len
def L7 (len:Nat):Option Int->Nat|none=>len|some i=>match decide (i<0) with|true=>(i+len).toNat|false=>min i.toNat len
def Xr {α:Type}(l:List α) (lo hi:Option Int):List α:=(l.drop (Si l.length lo)).take (L7 l.length hi - Si l.length lo)
theorem WW (n:Nat) (i:Int):max 0 (min (if i<0 then i+n else i) n)=(Si n (some i):Int):=by
 unfold Si
 by_cases q:i<0
 ·simp only[q,decide_true,if_true];rw[bG (gf (aF (cH q) n) (Int.le_of_eq (Int.zero_add _))),Int.ofNat_toNat,Int.max_comm]
 ·simp only[q,decide_false,if_false]
  obtain ⟨m,rfl⟩:=bu (fc.mp q)
  exact(congrArg _ (JE m n)).trans (bF (aE _))
theorem QF (lo hi:Option Int) (n:Nat):sliceBounds lo hi none n=((Si n lo:Int),(L7 n hi:Int),1):=by
 cases lo with
 |none=>cases hi with
  |none=>rfl
  |some j=>exact congrArg (fun x=>((0:Int),x,(1:Int))) (WW n j)
 |some i=>cases hi with
  |none=>exact congrArg (fun x=>(x,(n:Int),(1:Int))) (WW n i)
  |some j=>exact congr (congrArg (fun x y=>(x,y,(1:Int))) (WW n i)) (WW n j)
theorem KS (vs:List h_) (lo hi:Option Int):Qf vs lo hi=Xr vs lo hi:=by
 unfold Qf Xr slicePick
 rw[QF,gM]
 show ((sliceRange (Si vs.length lo) (L7 vs.length hi) 1).filterMap (vs.toArray[·]?)).toArray.toList=_
 rw[sliceRange_one,pick_run]
theorem E8 {α β:Type}(f:α->β) (l:List α) (lo hi:Option Int):Xr (l.map f) lo hi=(Xr l lo hi).map f:=by
 unfold Xr;rw[gn,<-List.map_drop,<-List.map_take]
theorem Sh {α:Type}(l:List α) (lo hi:Option Int):(Xr l lo hi).length<=l.length:=by unfold Xr;rw[fF,List.length_drop];exact fN (bq _ _) (Nat.sub_le _ _)
theorem ZT.drop {ρ:List Addr}{B:Part}:∀{k:Nat}{l:List AV}{vs:List h_},ZT ρ B l vs->ZT ρ B (l.drop k) (vs.drop k)
 |0,_,_,h=>h
 |k+1,[],_,h=>by rw[show _=_ from h];rfl
 |k+1,x::l,_,⟨v,r,e,a,b⟩=>by subst e;exact ZT.drop (k:=k) b
theorem ZT.take {ρ:List Addr}{B:Part}:∀{k:Nat}{l:List AV}{vs:List h_},ZT ρ B l vs->ZT ρ B (l.take k) (vs.take k)
 |0,_,_,h=>rfl
 |k+1,[],_,h=>by rw[show _=_ from h];rfl
 |k+1,x::l,_,⟨v,r,e,a,b⟩=>by subst e;exact⟨v,_,rfl,a,ZT.take (k:=k) b⟩
theorem ZT.Xr {ρ:List Addr}{B:Part}{l:List AV}{vs:List h_}(h:ZT ρ B l vs) (lo hi:Option Int):ZT ρ B (Mine.Xr l lo hi) (Mine.Xr vs lo hi):=by
 unfold Mine.Xr;rw[ZT.length h];exact ZT.take (ZT.drop h)
def E7:AO->Option Int->Option Int->AO| .list l,lo,hi=> .list (Xr l lo hi)| .Z_ l,lo,hi=> .Z_ (Xr l lo hi)|o,_,_=>o
theorem OP {o:AO}{l:List AV}(h:ZC o=some l) (lo hi:Option Int):ZC (E7 o lo hi)=some (Xr l lo hi):=by
 cases o with
 |list l'=>cases h;rfl
 |Z_ l'=>cases h;show some _=_;rw[E8]
 |_=>cases h
def UW (k:Int) (len:Nat):Nat:=match decide (k<0) with|true=>(k+len).toNat|false=>k.toNat
def C0 (k:Int) (len:Nat):Bool:=match decide (k<len) with|true=>decide (-(len:Int)<=k)|false=>false
theorem Vw {k:Int}{len:Nat}(h:C0 k len=true):dK k len=some (UW k len)/\UW k len<len/\ -(len:Int)<=k/\k<len:=by
 unfold C0 at h
 cases h1:decide (k<len) with
 |false=>rw[h1] at h;cases h
 |true=>
  rw[h1] at h
  have h1:=of_decide_eq_true h1
  have h2:=of_decide_eq_true h
  unfold dK UW
  by_cases q:k<0
  ·simp only[q,decide_true,if_true]
   have h3:0<=k+len:=Int.add_nonneg_iff_neg_le.mpr h2
   have h4:k+len<len:=Int.lt_of_lt_of_le (Int.add_lt_add_right q len) (Int.le_of_eq (Int.zero_add _))
   exact⟨if_pos (by rw[decide_eq_true h3,decide_eq_true h4];rfl),(Int.toNat_lt h3).mpr h4,h2,h1⟩
  ·simp only[q,decide_false,if_false]
   have h3:=fc.mp q
   exact⟨if_pos (by rw[decide_eq_true h3,decide_eq_true h1];rfl),(Int.toNat_lt h3).mpr h1,h2,h1⟩
theorem PT (m n:Nat):dK (m:Int) n=if m<n then some m else none:=by
 have h0:¬((m:Int)<0):=fc.mpr (aE m)
 unfold dK
 simp only[h0,if_false]
 by_cases q:m<n
 ·rw[if_pos q,if_pos (by simp;omega)];simp
 ·rw[if_neg q,if_neg (by simp;omega)]
section
variable {prog:gP}{w:g8}{A:gY}{E:h_->g7->Prop}{s:g7}
theorem Q4 {l:Addr}{items:Array h_}{k:Int}{t:Tok}{j:Nat}{x:h_}{Q:h_->g7->Prop}(hl:s.heap.IsList l items)
  (hfit:bT k=true) (hj:dK k items.size=some j) (hx:items[j]?=some x) (h:Q x s):gW (gO prog w) A (getItem (.ref l) (.int k t)) Q E s:=by
 obtain ⟨o,ho,hc,ne,hd⟩:=id hl
 unfold getItem
 try with_reducible refine fu ?_
 first|refine g_ (gU ?_)|skip
 refine g_ (wpAny_sequenceKey hl.typeIs (by decide) ?_)
 refine g_ (bS (name:=fz "__getitem__") hl.typeIs slot_list_getitem
  (cG slot_list_getitem hl.typeIs entry_list_getitem ?_ (args_list_getitem _ _)))
 show gW _ _ (bk (.int k t)>>=_) _ _ s
 refine g_ (wpAny_listSubscript_int hfit ?_)
 cases k with
 |ofNat m=>
  have hm:j=m:=by
   have e:=PT m items.size
   rw[show dK (cF m) items.size=_ from e] at hj
   split at hj
   ·exact(gj hj).symm
   ·cases hj
  subst hm
  show gW _ _ ((seqItemAt l j>>=fun r=>pure (r.map (j,·)))>>=_) _ _ s
  refine g_ (g_ (wpAny_seqItemAt ho hd (gU ?_)))
  rw[hx]
  first
   |exact g_ (gU (gU ⟨x,rfl,gU h⟩))
   |exact gU ⟨x,rfl,gU h⟩
 |negSucc m=>
  show gW _ _ ((dY.List.listItems (.ref l)>>=fun xs=>pure ((dK (.negSucc m) xs.size).bind fun j=>xs[j]?.map (j,·)))>>=_) _ _ s
  refine g_ (g_ ?_)
  unfold dY.List.listItems
  refine g_ (c5 ho hd (gU (gU ?_)))
  rw[hj]
  show gW _ _ (match (items[j]?.map (j,·)) with|some (_,x)=>_|none=>_) _ _ s
  rw[hx]
  first
   |exact g_ (gU (gU ⟨x,rfl,gU h⟩))
   |exact gU ⟨x,rfl,gU h⟩
set_option tactic.hygienic true in
theorem tail_any {value slice:Expr}{o i:h_}{T id:String}{Q:h_->g7->Prop}(hT:s.TypeIs o T) (hl:cD (.type T) "__getitem__" =pure (some (.builtin id))) (h:gW (gO prog w) A (getItem o i) Q E s):
  gW (gO prog w) A (eN value slice o i) Q E s:=by
 unfold eN
 refine g_ ?_
 rw[getitemInPython_of_ne hT.not_modules]
 refine g_ (wpAny_specialOf hT hl ?_)
 have fin:gW (gO prog w) A (subscripted slice false o i) (fun r E6=>gW (gO prog w) A (letTemporaryGo value o r>>=fun _=>pure r) Q E E6) E s:=by
  have g:∀ops,gW (gO prog w) A (operate ops (getItem o i)) (fun r E6=>gW (gO prog w) A (letTemporaryGo value o r>>=fun _=>pure r) Q E E6) E s:=fun ops=>
   wpAny_operating (wpAny_mono h (fun r E6 X8=>g_ (wpAny_letTemporaryGo (gU X8))) fun _ _ x=>x)
  obtain ⟨ops,e⟩:∃ops,subscripted slice false o i=operate ops (getItem o i):=by
   cases slice with
   |Slice a b c p=>cases c with
    |none=>exact⟨_,rfl⟩
    |some=>exact⟨_,rfl⟩
   |_=>exact⟨_,rfl⟩
  rw[e];exact g _
 first
  |exact gU (g_ fin)
  |exact g_ (gU (g_ fin))
  |exact g_ fin
end
def Bl (b:Bool) (σ:St) (K:Bool->St->Prop):Prop:=match b with|true=>K true σ|false=>K false σ
def kj (l:Nat) (b:Bool) (σ:St) (K:Bool->St->Prop) (os:List Gh) (g:Gh):Prop:=match g with
 | .t l'=>(match gZ l' l with|true=>b=true/\K true {σ with os:=os}|false=>Bl b σ K)
 | .f l'=>(match gZ l' l with|true=>b=false/\K false {σ with os:=os}|false=>Bl b σ K)
 |_=>Bl b σ K
def br (l:Nat) (b:Bool) (σ:St) (K:Bool->St->Prop):Prop:=match σ.os with|g::os=>kj l b σ K os g| []=>Bl b σ K
def I8 (b:Bool) (σ:St) (K:St->Prop):Prop:=match b with|true=>K σ|false=>False
def qZ (l:Nat) (b:Bool) (σ:St) (K:St->Prop) (os:List Gh) (g:Gh):Prop:=match g with
 | .k l'=>(match gZ l' l with|true=>b=true/\K {σ with os:=os}|false=>I8 b σ K)
 |_=>I8 b σ K
def Wc (l:Nat) (b:Bool) (σ:St) (K:St->Prop):Prop:=match σ.os with|g::os=>qZ l b σ K os g| []=>I8 b σ K
theorem U6 {a b:Bool}(h:(match a with|true=>b|false=>false)=true):a=true/\b=true:=by cases a;cases h;exact⟨rfl,h⟩
def ok (b:Bool) (P:Prop):Prop:=match b with|true=>P|false=>False
theorem ZS {b:Bool}{P:Prop}(h:ok b P):b=true/\P:=by cases b;exact h.elim;exact⟨rfl,h⟩
def opt {α:Type}(x:Option α) (p:α->Prop):Prop:=match x with|some a=>p a|none=>False
inductive qY {α:Type}(x:Option α) (p:α->Prop):Prop
 |mk (a:α) (e:x=some a) (h:p a)
theorem Z3 {α:Type}{x:Option α}{p:α->Prop}(h:opt x p):qY x p:=by
 cases x with
 |none=>exact h.elim
 |some a=>exact⟨a,rfl,h⟩
theorem Sg {α:Type}{x:Option α}{p:α->Prop}{a:α}(e:x=some a) (h:p a):opt x p:=by rw[e];exact h
theorem CZ {b:Bool}{P:Prop}(e:b=true) (h:P):ok b P:=by rw[e];exact h
theorem ok.imp {b:Bool}{P Q:Prop}(i:P->Q):ok b P->ok b Q:=by cases b;exact id;exact i
theorem opt.imp {α:Type}{x:Option α}{p q:α->Prop}(i:∀a,p a->q a):opt x p->opt x q:=by cases x;exact id;exact i _
theorem SO {b:Bool}{σ:St}{K:Bool->St->Prop}(h:Bl b σ K):∃os,K b {σ with os:=os}:=by cases b<;>exact⟨σ.os,h⟩
theorem Sf {b:Bool}{σ:St}{K:St->Prop}(h:I8 b σ K):b=true/\∃os,K {σ with os:=os}:=by
 cases b
 ·exact h.elim
 ·exact⟨rfl,σ.os,h⟩
theorem x6 {l:Nat}{b:Bool}{σ:St}{K:Bool->St->Prop}(h:br l b σ K):∃os,K b {σ with os:=os}:=by
 unfold br at h
 generalize σ.os=o at h
 cases o with
 |nil=>exact SO h
 |cons g os=>cases g with
  |t l'=>
   have h:(match gZ l' l with|true=>b=true/\K true {σ with os:=os}|false=>Bl b σ K):=h
   cases q:gZ l' l with
   |true=>rw[q] at h;exact⟨_,h.1▸h.2⟩
   |false=>rw[q] at h;exact SO h
  |f l'=>
   have h:(match gZ l' l with|true=>b=false/\K false {σ with os:=os}|false=>Bl b σ K):=h
   cases q:gZ l' l with
   |true=>rw[q] at h;exact⟨_,h.1▸h.2⟩
   |false=>rw[q] at h;exact SO h
  |_=>exact SO h
theorem Nb {l:Nat}{b:Bool}{σ:St}{K:St->Prop}(h:Wc l b σ K):b=true/\∃os,K {σ with os:=os}:=by
 unfold Wc at h
 generalize σ.os=o at h
 cases o with
 |nil=>exact Sf h
 |cons g os=>cases g with
  |k l'=>
   have h:(match gZ l' l with|true=>b=true/\K {σ with os:=os}|false=>I8 b σ K):=h
   cases q:gZ l' l with
   |true=>rw[q] at h;exact⟨h.1,_,h.2⟩
   |false=>rw[q] at h;exact Sf h
  |_=>exact Sf h
section
variable {G:Gm}{n:Nat}{Φ:Fm}{σ Z4 ZW Zq ZH:St}{X:XK}
theorem Uo {ω:Wd}{i:Int}{v:h_}(r:RV ω (.d (.int i)) v):∃t,v= .int i t:=by unfold RV Rep Y8 at r;exact r
theorem U5 {ω:Wd}{i:Str}{v:h_}(r:RV ω (.d (.str i)) v):∃t,v= .str i t:=by unfold RV Rep Y8 at r;exact r
theorem I7 {ω:Wd}{i:Bool}{v:h_}(r:RV ω (.d (.bool i)) v):v= .bool i:=by unfold RV Rep Y8 at r;exact r
theorem I6 {ω:Wd}{v:h_}(r:RV ω (.d .none) v):v= .none:=by unfold RV Rep Y8 at r;exact r
theorem KR {ω:Wd}{l:List D}{v:h_}(r:RV ω (.d (.tup l)) v):∃a vs,v= .ref a/\ω.B a=some (WZ vs)/\ZE ω.B l vs:=by unfold RV Rep Y8 at r;exact r
theorem NB {ω:Wd}{i:Int}{t:Tok}:RV ω (.d (.int i)) (.int i t):=by unfold RV Rep Y8;exact⟨t,rfl⟩
theorem Bk {ω:Wd}{i:Str}{t:Tok}:RV ω (.d (.str i)) (.str i t):=by unfold RV Rep Y8;exact⟨t,rfl⟩
theorem OO {ω:Wd}{i:Bool}:RV ω (.d (.bool i)) (.bool i):=by unfold RV Rep Y8;rfl
theorem xZ {ω:Wd}:RV ω (.d .none) .none:=by unfold RV Rep Y8;rfl
def KQ (as:List AV) (k:AV->Prop):Prop:=match as with| [a]=>k a|_=>False
def E5 (as:List AV) (k:AV->AV->Prop):Prop:=match as with| [a,b]=>k a b|_=>False
def Un (a:AV) (k:Int->Prop):Prop:=opt (x9 a) k
def zh (a:AV) (k:Str->Prop):Prop:=opt (x8 a) k
def CY (a:AV) (k:Nat->Prop):Prop:=match a with| .loc i=>k i|_=>False
section
variable {ω:Wd}
theorem Xw {as:List AV}{vs:List h_}{k:AV->Prop}{C:List h_->Prop}(h:KQ as k) (r:Xn ω as vs) (f:∀a u,k a->RV ω a u->C [u]):C vs:=by
 cases as with
 |nil=>exact gV h
 |cons a as=>cases as with
  |nil=>obtain ⟨u,_,rfl,ru,rfl⟩:=r;exact f a u h ru
  |cons=>exact gV h
theorem VQ {as:List AV}{vs:List h_}{k:AV->AV->Prop}{C:List h_->Prop}(h:E5 as k) (r:Xn ω as vs) (f:∀a b u v,k a b->RV ω a u->RV ω b v->C [u,v]):C vs:=by
 cases as with
 |nil=>exact gV h
 |cons a as=>cases as with
  |nil=>exact gV h
  |cons b as=>cases as with
   |nil=>obtain ⟨u,_,rfl,ru,v,_,rfl,rv,rfl⟩:=r;exact f a b u v h ru rv
   |cons=>exact gV h
theorem YR {a:AV}{u:h_}{k:Int->Prop}{C:h_->Prop}(h:Un a k) (r:RV ω a u) (f:∀i t,k i->C (.int i t)):C u:=by
 obtain ⟨i,e,h⟩:=Z3 h
 rw[VR e] at r
 obtain ⟨t,rfl⟩:=Uo r
 exact f i t h
theorem Na {a:AV}{u:h_}{k:Str->Prop}{C:h_->Prop}(h:zh a k) (r:RV ω a u) (f:∀i t,k i->C (.str i t)):C u:=by
 obtain ⟨i,e,h⟩:=Z3 h
 rw[PU e] at r
 obtain ⟨t,rfl⟩:=U5 r
 exact f i t h
theorem U4 {a:AV}{u:h_}{k:Nat->Prop}{C:Prop}(h:CY a k) (r:RV ω a u) (f:∀i,k i->RV ω (.loc i) u->C):C:=by
 cases a with
 |loc i=>exact f i h r
 |_=>exact gV h
end
theorem XR {ι α:Type}{RR:Wd->ι->α->Prop}{L:Addr}{fs:Frs}{ω:Wd}{t:Sem α}{l:Nat}{b:Bool}{P:St->Prop}{K:ι->St->Prop}(h:Wc l b σ P) (i:∀os,b=true->P {σ with os:=os}->Pt G n RR L fs ω t {σ with os:=os} K X):Pt G n RR L fs ω t σ K X:=fun _ _ hA R=>by
 obtain ⟨e,os,h⟩:=Nb h
 exact i os e h hA R
theorem Tu {its:Array h_}{n:Nat}{f:Array h_->Array h_}:bR f (fV its n)=fV (f its) (if (f its).size==its.size then n else n+1):=rfl
theorem SS.mapSeq {hS h:Heap}{B:Part}{L:Addr}{m:Str->Option h_}{R:List (Part->Prop)}{l:Addr}{vs vs':List h_}{f:Array h_->Array h_}(S:SS hS B L m (V9 l vs::R) h) (e:f vs.toArray=vs'.toArray):SS hS B L m (V9 l vs'::R) (h.update l (bR f)):=by
 obtain ⟨V,S,V1,V2,d,l1,l2,⟨n,a⟩,r⟩:=S
 have S':=S.update (f:=bR f) (l1 _ _ a) (by rw[Tu];rfl)
 rw[Tu,e] at S'
 exact SS.Np a d l1 l2 r S' ⟨_,Z6 _ _ _⟩
inductive qX (G:Gm) (L:Addr) (ω:Wd) (σ:St) (fs:Frs) (h:Heap) (i:Nat) (l:List AV) (u:h_):Prop
 |mk (a:Addr) (m:Str->Option h_) (rest:List (Part->Prop)) (vs:List h_) (e:u= .ref a) (r:Xn ω l vs) (S:SS G.hS ω.B L m (V9 a vs::rest) h) (same:∀h',SS G.hS ω.B L m (V9 a vs::rest) h'->Rel G L ω σ fs h')
  (turn:∀o' l' vs' h',ZC o'=some l'->Xn ω l' vs'->SS G.hS ω.B L m (V9 a vs'::rest) h'->Rel G L ω {σ with hp:=σ.hp.set i o'} fs h')
inductive qW (G:Gm) (L:Addr) (ω:Wd) (σ:St) (fs:Frs) (h:Heap):Prop
 |mk (m:Str->Option h_) (cs:List (Part->Prop)) (S:SS G.hS ω.B L m cs h) (same:∀h',SS G.hS ω.B L m cs h'->Rel G L ω σ fs h')
  (new:∀{K:AV->St->Prop}(D:Addr) (o:AO) (l:List AV) (vs:List h_) (h':Heap),ZC o=some l->Xn ω l vs->SS G.hS ω.B L m (V9 D vs::cs) h'->K (.loc σ.hp.length) {σ with hp:=σ.hp++ [o]}->PG G RV L fs ω K (.ref D) h')
theorem Rel.lst {L:Addr}{ω:Wd}{fs:Frs}{h:Heap}{i:Nat}{o:AO}{l:List AV}{u:h_}(R:Rel G L ω σ fs h) (hi:σ.hp[i]?=some o) (hl:ZC o=some l) (r:RV ω (.loc i) u):
  qX G L ω σ fs h i l u:=by
 obtain ⟨a,m,rest,rfl,S,back⟩:=R.at hi r
 obtain ⟨vs,S⟩:=(S.conv (fun V=>(Xm hl).mp)).ex
 obtain ⟨rs,S⟩:=S.fact
 exact⟨a,m,rest,vs,rfl,rs,S,fun h' S'=>Rel.same hi (back o h' (S'.conv fun V hV=>(Xm hl).mpr ⟨vs,rs,hV⟩)),fun o' l' vs' h' hl' r' S'=>back o' h' (S'.conv fun V hV=>(Xm hl').mpr ⟨vs',r',hV⟩)⟩
theorem Rel.newL {L:Addr}{ω:Wd}{fs:Frs}{h:Heap}(R:Rel G L ω σ fs h):qW G L ω σ fs h:=by
 obtain ⟨m,cs,S,new,same,_⟩:=R.cs
 refine⟨m,cs,S,same,fun{K} D o l vs h' hl r S' k=> ?_⟩
 obtain ⟨R',r'⟩:=new D o h' (S'.conv fun V hV=>(Xm hl).mpr ⟨vs,r.up .new,hV⟩)
 exact⟨_,_,_,k,.new,R',r'⟩
def small (k:Nat):Bool:=gK k 100000
theorem Ze {k:Nat}(h:small k=true):k<=sizeLine:=fN (gp h) (by decide)
theorem Se {k:Nat}(h:small k=true):k<2 ^ 62:=aG (gp h) (by decide)
theorem KP {as:List AV}{K:AV->St->Prop}(hz:small as.length=true) (k:K (.loc σ.hp.length) {σ with hp:=σ.hp++ [tB as]}):tD G n RV newList as σ K X:=fun L fs ω vs r A h hA R=>by
 obtain ⟨m,cs,S,_,new⟩:=R.newL
 exact K9 S (fun a h' S'=>new a _ _ _ h' Nc r S' k) (by rw[ZT.length r];exact Ze hz)
abbrev I5:List AV->Option (List D):=Te x7
theorem ON {ω:Wd}{as:List AV}{l:List D}(h:I5 as=some l):∀{vs:List h_},Xn ω as vs->ZE ω.B l vs:=by
 have m:=UN h
 clear h
 induction m with
 |nil=>exact fun r=>by unfold ZE;exact r
 |cons e _ ih=>exact fun⟨v,vs,e',a,b⟩=>by unfold ZE;rw[PV e] at a;exact⟨v,vs,e',a,ih b⟩
theorem M_ {as:List AV}{l:List D}{K:AV->St->Prop}(hd:I5 as=some l) (hz:small as.length=true) (k:K (.d (.tup l)) σ):tD G n RV dg as σ K X:=fun L fs ω vs r A h hA R=>by
 obtain ⟨m,cs,S,_,_,Q5⟩:=R.cs
 refine U' S (fun a h' S'=> ?_) (by rw[ZT.length r];exact Ze hz)
 obtain ⟨B',le,e,R'⟩:=Q5 a _ h' S'
 exact⟨.d (.tup l),σ,_,k,.kept le,R',by unfold RV Rep Y8;exact⟨a,vs,rfl,e,(ON hd r).mono le⟩⟩
theorem Bj {elts:List Expr}{pos:Pos}{K:AV->St->Prop}(x:SR G n Φ elts σ (fun as Z4=>tD G n RV newList as Z4 K X) X):Zd G n Φ (.List elts pos) σ K X:=fun env ω fs he A h hA R=>
 BL ((x pos he hA R).mono (fun vs ZU ⟨as,Z4,ZR,k,ZX,ZK,Zx⟩=>(k Zx hA ZK).mono (fun _ _ p=>p.up ZX) fun _ _ p=>p.up ZX) fun _ _ p=>p)
theorem E4 {elts:List Expr}{q:Nat}{pos:Pos}{K:AV->St->Prop}(x:SR G n Φ elts σ (fun as Z4=>tD G n RV dg as Z4 K X) X):Zd G n Φ (.Tuple elts q pos) σ K X:=fun env ω fs he A h hA R=>
 Qh ((x pos he hA R).mono (fun vs ZU ⟨as,Z4,ZR,k,ZX,ZK,Zx⟩=>(k Zx hA ZK).mono (fun _ _ p=>p.up ZX) fun _ _ p=>p.up ZX) fun _ _ p=>p)
def CX (G:Gm) (n:Nat) (Φ:Fm) (o:Option Expr) (σ:St) (K:Option Int->St->Prop) (X:XK):Prop:=match o with|none=>K none σ|some e=>Zd G n Φ e σ (fun a Z4=>∃i,a= .d (.int i)/\K (some i) Z4) X
theorem E0 {prog:gP}{w:g8}{A:gY}{X:h_->Heap->Prop}{h:Heap}{env:Env}{lower upper:Option Expr}{p:Pos}{Q:h_->Heap->Prop}
  (x:W prog w A (evalPart lower env) (fun vl ZU=>W prog w A (evalPart upper env) (fun vu ZO=>Q (.ref ZO.objs.size) (ZO.push (P_ vl vu))) X ZU) X h):W prog w A (eval (.Slice lower upper none p) env) Q X h:=fun s Q' E hs k kx=>
 wpAny_Slice (x s _ E hs (fun vl ZU tk y=>y.go (fun vu ZO tk y=>by rw[evalPart_none];exact gU (k _ _ tk y)) kx) kx)
theorem I4 {o:Option Expr}{K:Option Int->St->Prop}(x:CX G n Φ o σ K X) {env:Env}{ω:Wd}{fs:Frs}{A:gY}{h:Heap}(he:Zb Φ env ω.ρ) (hA:Wu n A env.locals fs) (R:Rel G env.locals ω σ fs h):
  W G.prog G.w A (evalPart o env) (PG G (fun _ a v=>IsPart v a) env.locals fs ω K) (PG G RV env.locals fs ω X) h:=by
 cases o with
 |none=>exact Ft ⟨none,σ,ω,x,.rfl,R,.none⟩
 |some e=>exact BE ((x he hA R).mono (fun v ZU ⟨a,Z4,ZR,⟨i,e,k⟩,ZX,ZK,Zx⟩=>by
   subst e;obtain ⟨t,rfl⟩:=Uo Zx;exact⟨some i,Z4,ZR,k,ZX,ZK,.int i t⟩) fun _ _ p=>p)
theorem EZ {lower upper:Option Expr}{p:Pos}{K:AV->St->Prop}(x:CX G n Φ lower σ (fun lo Z4=>CX G n Φ upper Z4 (fun hi ZW=>K (.Xr lo hi) ZW) X) X):Zd G n Φ (.Slice lower upper none p) σ K X:=fun env ω fs he A h hA R=>
 E0 ((I4 x he hA R).mono (fun vl ZU ⟨lo,Z4,ZR,k,ZX,ZK,p1⟩=>(I4 k (he.up ZX) hA ZK).mono (fun vu ZO ⟨hi,ZW,Zl,k,l₂,Zg,p2⟩=>by
  obtain ⟨m,cs,S,_,_,Q5⟩:=Zg.cs
  obtain ⟨B',le,e,R'⟩:=Q5 _ (P_ vl vu) _ (S.Xg rfl (Z6 _ _ _))
  exact⟨.Xr lo hi,ZW,_,k,(ZX.trans l₂).trans (.kept le),R',⟨_,vl,vu,rfl,p1,p2,e⟩⟩) fun _ _ p=>p.up ZX) fun _ _ p=>p)
theorem xY {value slice:Expr}{pos:Pos}{K:AV->St->Prop}(x:Zd G n Φ value σ (fun a Z4=>Zd G n Φ slice Z4 (fun b ZW=>Nj G n RV (eN value slice) a b ZW K X) X) X):Zd G n Φ (.Subscript value slice pos) σ K X:=fun env ω fs he A h hA R=>
 w_sub ((x he hA R).mono (fun u ZU ⟨a,Z4,ZR,k,ZX,ZK,Zx⟩=>(k (he.up ZX) hA ZK).mono (fun v ZO ⟨b,ZW,Zl,k,l₂,Zg,Yx⟩=>(k (Zx.up l₂) Yx hA Zg).mono (fun _ _ p=>p.up (ZX.trans l₂)) fun _ _ p=>p.up (ZX.trans l₂)) fun _ _ p=>p.up ZX) fun _ _ p=>p)
def Zj (c:Nat):Str:=⟨#[c]⟩
def QZ (s:Str) (lo hi:Option Int):Str:=⟨(Xr s.cps.toList lo hi).toArray⟩
def Wq (k:Int) (len:Nat):Bool:=match C0 k len with|true=>small len|false=>false
theorem Sd {k:Int}{len:Nat}(h:Wq k len=true):C0 k len=true/\small len=true:=by
 unfold Wq at h
 cases e:C0 k len with
 |true=>rw[e] at h;exact⟨rfl,h⟩
 |false=>rw[e] at h;cases h
theorem fits_of {k:Int}{len:Nat}(h:Wq k len=true):bT k=true:=by
 obtain ⟨h1,h2⟩:=Sd h
 obtain ⟨_,_,a,b⟩:=Vw h1
 have:=gp h2
 unfold bT
 simp only[bD,decide_eq_true_eq]
 constructor<;>omega
def U3:AO->Option (List (Int×AV))| .dict l=>some l|_=>none
theorem Xd {α:Type}{a:α}{P:Prop}(h:none=some a):P:=by cases h
theorem Vv {o:AO}{l:List (Int×AV)}(h:U3 o=some l):o= .dict l:=by
 cases o with
 |dict d=>exact congrArg _ (gj h)
 |_=>exact Xd h
def I3:AO->Option (List Int)| .Z_ l=>some l|_=>none
theorem SN {o:AO}{l:List Int}(h:I3 o=some l):o= .Z_ l:=by
 cases o with
 |Z_ d=>exact congrArg _ (gj h)
 |_=>exact Xd h
def OM:AV->Option (Option Int×Option Int)| .Xr lo hi=>some (lo,hi)|_=>none
theorem PS {a:AV}{p:Option Int×Option Int}(h:OM a=some p):a= .Xr p.1 p.2:=by
 cases a with
 |Xr=>cases h;rfl
 |_=>exact Xd h
def xX (l:Nat) (a b:AV) (σ:St) (K:AV->St->Prop):Prop:=
 match a with
 | .loc i=>opt σ.hp[i]? fun o=>(match OM b with
  |some p=>ok (Vc o) (Wc l (small (Za o)) σ fun σ=>K (.loc σ.hp.length) {σ with hp:=σ.hp++ [E7 o p.1 p.2]})
  |none=>Un b fun k=>(match U3 o with
   |some d=>opt (Jk d k) fun v=>K v σ
   |none=>ok (Vc o) (Wc l (Wq k (Za o)) σ fun σ=>K (YF o (UW k (Za o))) σ)))
 | .d x=>(match x with
  | .tup t=>Un b fun k=>Wc l (Wq k t.length) σ fun σ=>K (.d (t.getD (UW k t.length) .none)) σ
  | .str s=>(match OM b with
   |some p=>Wc l (small s.length) σ fun σ=>K (.d (.str (QZ s p.1 p.2))) σ
   |none=>Un b fun k=>Wc l (Wq k s.length) σ fun σ=>K (.d (.str (Zj (s.cps.toList.getD (UW k s.length) 0)))) σ)
  |_=>False)
 |_=>False
end
theorem ZE.getD {B:Part}{l:List D}{vs:List h_}(h:ZE B l vs) {i:Nat}(hi:i<l.length):∃v,vs[i]?=some v/\Y8 B (l.getD i .none) v:=
 ZE.get h (by rw[fG,f9 hi];rfl)
theorem ZT.I2 {ω:Wd}{o:AO}{l:List AV}{vs:List h_}(hl:ZC o=some l) (r:Xn ω l vs) {i:Nat}(hi:i<l.length):∃v,vs[i]?=some v/\RV ω (YF o i) v:=ZT.get r (E9 hl hi)
theorem Bh {x:Str}{k:Int}(h:C0 k x.length=true):(dK k x.length).bind (x.cps[·]?)=some (x.cps.toList.getD (UW k x.length) 0):=by
 obtain ⟨e,lt,_,_⟩:=Vw h
 rw[e]
 have hs:x.length=x.cps.size:=rfl
 show x.cps[UW k x.length]?=_
 rw[<-bh,fG,f9 (by rw[dJ,<-hs];exact lt)]
 rfl
theorem CW {vl:h_}{lo:Option Int}(p:IsPart vl lo):∃l:Option (Int×Tok),vl=partValue l/\l.map (·.1)=lo:=by
 cases p with
 |none=>exact⟨none,rfl,rfl⟩
 |int i t=>exact⟨some (i,t),rfl,rfl⟩
theorem I1 (len:Nat) (lo hi:Option Int):bQ lo hi 1 len=(eY (L7 len hi - Si len lo)).map (Si len lo+·):=by
 rw[<-sliceRange_one]
 cases lo with
 |none=>cases hi with
  |none=>rfl
  |some j=>exact congrArg (fun x=>sliceRange 0 x 1) (WW len j)
 |some i=>cases hi with
  |none=>exact congrArg (fun x=>sliceRange x len 1) (WW len i)
  |some j=>exact congr (congrArg (fun x y=>sliceRange x y 1) (WW len i)) (WW len j)
section
variable {G:Gm}{n:Nat}{Φ:Fm}{σ Z4 ZW Zq ZH:St}{X:XK}
theorem SS.dictOf {hS h:Heap}{B:Part}{L:Addr}{m:Str->Option h_}{R:List (Part->Prop)}{d:Addr}{kvs:List (Int×h_)}{p:gP}{w:g8}(S:SS hS B L m (BC d kvs::R) h):h.DictOf (fh p w) d kvs:=by
 obtain ⟨V,S,V1,V2,dd,l1,l2,⟨o,e,q⟩,r⟩:=S
 exact q p w h (S.YW _ _ (l1 _ _ e))
theorem Q_.at {ρ:List Addr}{B:Part}{k:Int}{a:AV}:∀{l:List (Int×AV)}{kvs:List (Int×h_)},Q_ ρ B l kvs->Jk l k=some a->∃v,valueAt kvs k=some v/\Rep ρ B a v
 | [],_,_,e=>by cases e
 |(y,b)::l,_,⟨v,r,rfl,p,q⟩,e=>by
  unfold Jk at e
  unfold valueAt
  cases h:decide (y=k) with
  |true=>rw[h] at e;cases e;exact⟨v,by simp[List.find?,h],p⟩
  |false=>
   rw[h] at e
   obtain ⟨v',e',r'⟩:=Q_.at q e
   exact⟨v',by simp only[List.find?,h];exact e',r'⟩
theorem Q_.none {ρ:List Addr}{B:Part}{k:Int}:∀{l:List (Int×AV)}{kvs:List (Int×h_)},Q_ ρ B l kvs->Jk l k=none->valueAt kvs k=none
 | [],kvs,h,_=>by rw[show kvs= [] from h];rfl
 |(y,b)::l,_,⟨v,r,rfl,p,q⟩,e=>by
  unfold Jk at e
  unfold valueAt
  cases h:decide (y=k) with
  |true=>rw[h] at e;cases e
  |false=>
   rw[h] at e
   simp only[List.find?,h];exact Q_.none q e
theorem isInt_self (k:Int) (t:Tok):h_.isInt k (.int k t)=true:=by simp[h_.isInt]
set_option tactic.hygienic true in
theorem str_slice {x:Str}{t:Tok}{lo hi:Option Int}{ω:Wd}{L:Addr}{fs:Frs}{v:h_}{value slice:Expr}{K:AV->St->Prop}(hz:small x.length=true) (r:RV ω (.Xr lo hi) v) (k:K (.d (.str (QZ x lo hi))) σ):
  Pt G n RV L fs ω (eN value slice (.str x t) v) σ K X:=fun A h hA R=>by
 obtain ⟨a,vl,vu,rfl,p1,p2,e⟩:=r
 obtain ⟨m,l,R'⟩:=id R
 obtain ⟨V,S,_⟩:=R'.ss
 obtain ⟨l',e1,q1⟩:=CW p1
 obtain ⟨u',e2,q2⟩:=CW p2
 intro s Q' E hs k' kx
 subst hs
 refine tail_any (typeIs_str s x t) F.slot_str_getitem.lookup (wpAny_getItem_str_slice (l:=l') (u:=u') (st:=none) ⟨_,S.keep _ _ e,rfl,by rw[e1,e2];rfl⟩ rfl ?_)
 have key:∀tk t',Q' (.str (QZ x lo hi) t') {s with heap:=s.heap,toks:=tk}:=fun tk t'=>k' _ s.heap tk (R.here (RR:=RV) Bk k)
 have pe:(bP x l' u' none).filterMap (x.cps[·]?)=Xr x.cps.toList lo hi:=by
  unfold bP
  rw[q1,q2]
  show (bQ lo hi 1 x.length).filterMap _=_
  rw[I1,pick_run]
  unfold Xr;rw[dJ];rfl
 unfold sliceMade
 split
 ·rename_i hc
  have hlen:(bP x l' u' none).length=x.length:=by
   have:=(g6.mp hc).2
   exact beq_iff_eq.mp this
  have ex:QZ x lo hi=x:=by
   unfold QZ
   rw[<-pe]
   have:(bP x l' u' none)=eY x.length:=by
    unfold bP at hlen ⊢
    rw[q1,q2] at hlen ⊢
    have e3:bQ lo hi 1 x.length=_:=I1 x.length lo hi
    change (bQ lo hi 1 x.length).length=_ at hlen
    change bQ lo hi 1 x.length=_
    rw[e3] at hlen ⊢
    rw[gn,List.length_range] at hlen
    have hB:L7 x.length hi<=x.length:=by
     unfold L7
     cases hi with
     |none=>exact gi _
     |some i=>
      by_cases q:i<0
      ·simp only[q,decide_true];omega
      ·simp only[q,decide_false];omega
    have h0:Si x.length lo=0\/x.length=0:=by omega
    rcases h0 with h0|h0
    ·rw[hlen,h0];simp
    ·rw[hlen,h0];rfl
   rw[this]
   have:=pick_run x.cps 0 x.length
   simp only[bO,List.drop_zero] at this
   have e4:(eY x.length).map (fun x=>x)=eY x.length:=by simp
   rw[e4] at this
   rw[this]
   cases x with|mk cps=>show Str.mk ((cps.toList.take cps.size).toArray)=_;congr 1;apply dU.mp;exact cC (by rw[dJ];exact gi _)
  have:=key s.toks t
  rw[ex] at this
  exact this
 ·rw[pe]
  refine⟨?_,key _ _⟩
  show (Xr x.cps.toList lo hi).toArray.size<=sizeLine
  rw[gM]
  exact fN (Sh _ _ _) (by rw[dJ];exact Ze hz)
section
variable {L:Addr}{fs:Frs}{ω:Wd}{K:AV->St->Prop}{value slice:Expr}{i:Nat}{k:Int}{t:Tok}{u v:h_}{o:AO}
theorem I0 {d:List (Int×AV)}{x:AV}(hi:σ.hp[i]?=some (.dict d)) (hk:Jk d k=some x) (ru:RV ω (.loc i) u) (q:K x σ):Pt G n RV L fs ω (eN value slice u (.int k t)) σ K X:=fun A h' hA R=>by
 obtain ⟨ad,m,rest,rfl,S,_⟩:=R.at hi ru
 obtain ⟨kvs,S⟩:=S.ex
 obtain ⟨F,S⟩:=S.fact
 obtain ⟨v,e1,r1⟩:=F.at hk
 have hm:=S.dictOf (p:=G.prog) (w:=G.w)
 intro s Q' E hs k' kx
 subst hs
 exact tail_any hm.typeIs slot_dict_getitem.lookup (wpAny_getItem_of (knd:=fh G.prog G.w) (k:=k) (isInt_self k t) hm.mapOf e1 (k' _ s.heap _ (R.here (RR:=RV) r1 q)))
theorem IZ (hi:σ.hp[i]?=some o) (hl:Vc o=true) (hc:Wq k (Za o)=true) (ru:RV ω (.loc i) u) (q:K (YF o (UW k (Za o))) σ):Pt G n RV L fs ω (eN value slice u (.int k t)) σ K X:=fun A h' hA R=>by
 obtain ⟨l',hl'⟩:=Xx hl
 rw[YZ hl'] at hc q
 obtain ⟨e1,e2,_,_⟩:=Vw (Sd hc).1
 obtain ⟨ad,m,rest,vs,rfl,rs,S,_,_⟩:=R.lst hi hl' ru
 obtain ⟨v,e3,r3⟩:=ZT.I2 hl' rs e2
 obtain ⟨nn,ge⟩:=S.YF
 intro s Q' E hs k' kx
 subst hs
 have hL:s.heap.IsList ad vs.toArray:=⟨_,ge,rfl,nn,rfl⟩
 exact tail_any hL.typeIs list_getitem_lookup (Q4 hL (fits_of hc) (by rw[gM,ZT.length rs];exact e1) (by rw[cZ];exact e3) (k' _ s.heap s.toks (R.here (RR:=RV) r3 q)))
theorem IY {lo hi':Option Int}(hi:σ.hp[i]?=some o) (hl:Vc o=true) (hc:small (Za o)=true) (ru:RV ω (.loc i) u) (rv:RV ω (.Xr lo hi') v) (q:K (.loc σ.hp.length) {σ with hp:=σ.hp++ [E7 o lo hi']}):Pt G n RV L fs ω (eN value slice u v) σ K X:=fun A h' hA R=>by
 obtain ⟨l',hl'⟩:=Xx hl
 rw[YZ hl'] at hc
 obtain ⟨ad,m,rest,vs,rfl,rs,S,same,_⟩:=R.lst hi hl' ru
 obtain ⟨m',cs',S',_,new⟩:=R.newL
 obtain ⟨sa,vl,vu,rfl,p1,p2,es⟩:=rv
 obtain ⟨nn,ge⟩:=S.YF
 intro s Q' E hs k' kx
 subst hs
 have hL:s.heap.IsList ad vs.toArray:=⟨_,ge,rfl,nn,rfl⟩
 have gs:s.heap.get? sa=some (P_ vl vu):=R.Vd _ _ es
 refine tail_any hL.typeIs list_getitem_lookup (wpAny_getItem_list_slice hL (vs:= .none) (st:=none) ⟨_,gs,rfl,rfl⟩ p1 p2 .none (fun e=>nomatch e) (k' _ _ s.toks ?_) (by rw[gM,ZT.length rs];exact Ze hc))
 exact new _ (E7 o lo hi') _ (Qf vs lo hi') _ (OP hl' lo hi') (by rw[KS];exact ZT.Xr rs lo hi') (S'.Xg rfl ⟨0,by rw[Z6];simp[Qf]⟩) q
theorem EY {l:List D}(hc:Wq k l.length=true) (ru:RV ω (.d (.tup l)) u) (q:K (.d (l.getD (UW k l.length) .none)) σ):Pt G n RV L fs ω (eN value slice u (.int k t)) σ K X:=fun A h' hA R=>by
 obtain ⟨h1,h2⟩:=Sd hc
 obtain ⟨e1,e2,b1,b2⟩:=Vw h1
 have hz:=gp h2
 obtain ⟨ta,vs,rfl,eB,rs⟩:=KR ru
 obtain ⟨v,e3,r3⟩:=ZE.getD rs e2
 intro s Q' E hs k' kx
 subst hs
 have hT:IsTup s.heap ta vs.toArray:=⟨_,R.Vd _ _ eB,rfl,_,rfl⟩
 exact tail_any hT.typeIs slot_tuple_getitem.lookup (PyProof.Rows.getItem_tuple hT (by omega) (by omega) (by rw[gM,ZE.length rs];exact e1) (by rw[cZ];exact e3) (k' _ s.heap s.toks (R.here (RR:=RV) (a:= .d (l.getD (UW k l.length) .none)) r3 q)))
theorem EX {x:Str}{tx:Tok}(hc:Wq k x.length=true) (q:K (.d (.str (Zj (x.cps.toList.getD (UW k x.length) 0)))) σ):Pt G n RV L fs ω (eN value slice (.str x tx) (.int k t)) σ K X:=fun A h' hA R=>by
 obtain ⟨h1,h2⟩:=Sd hc
 obtain ⟨e1,e2,b1,b2⟩:=Vw h1
 have hz:=gp h2
 intro s Q' E hs k' kx
 subst hs
 refine tail_any (typeIs_str s x tx) F.slot_str_getitem.lookup (PyProof.Rows.getItem_str ?_ (Bh h1) (k' _ s.heap _ (R.here (RR:=RV) Bk q)))
 simp only[bC,decide_eq_false_iff_not]
 constructor<;>omega
theorem EW {l:Nat}{a b:AV}(h:xX l a b σ K):Nj G n RV (eN value slice) a b σ K X:=fun L fs ω u v ru rv=>by
 cases a with
 |loc i=>
  obtain ⟨o,hi,h⟩:=Z3 h
  cases e:OM b with
  |some p=>
   rw[e] at h
   rw[PS e] at rv
   obtain ⟨hl,h⟩:=ZS h
   apply XR h
   intro os e h
   exact IY (σ:={σ with os:=os}) hi hl e ru rv h
  |none=>
   rw[e] at h
   apply YR h rv
   intro k t h
   cases e:U3 o with
   |some d=>
    rw[e] at h
    rw[Vv e] at hi
    obtain ⟨x,hk,h⟩:=Z3 h
    exact I0 hi hk ru h
   |none=>
    rw[e] at h
    obtain ⟨hl,h⟩:=ZS h
    apply XR h
    intro os e h
    exact IZ (σ:={σ with os:=os}) hi hl e ru h
 |d x=>cases x with
  |tup t=>
   apply YR h rv
   intro k t h
   apply XR h
   intro os e h
   exact EY (σ:={σ with os:=os}) e ru h
  |str s=>
   obtain ⟨tx,rfl⟩:=U5 ru
   have h:(match OM b with
    |some p=>Wc l (small s.length) σ fun σ=>K (.d (.str (QZ s p.1 p.2))) σ
    |none=>Un b fun k=>Wc l (Wq k s.length) σ fun σ=>K (.d (.str (Zj (s.cps.toList.getD (UW k s.length) 0)))) σ):=h
   cases e:OM b with
   |some p=>
    rw[e] at h
    rw[PS e] at rv
    apply XR h
    intro os e h
    exact str_slice (σ:={σ with os:=os}) e rv h
   |none=>
    rw[e] at h
    apply YR h rv
    intro k t h
    apply XR h
    intro os e h
    exact EX (σ:={σ with os:=os}) e h
  |_=>exact gV h
 |_=>exact gV h
end
theorem Pt.at {ι α:Type}{RR:Wd->ι->α->Prop}{t:Sem α}{L:Addr}{fs:Frs}{ω:Wd}{a:ι}{K:ι->St->Prop}(k:K a σ)
  (x:∀(A:gY) (s:g7) (Q':α->g7->Prop) (E:h_->g7->Prop),Wu n A L fs->Rel G L ω σ fs s.heap->(∀v tk,RR ω a v->Q' v {s with heap:=s.heap,toks:=tk})->gW (gO G.prog G.w) A t Q' E s):Pt G n RR L fs ω t σ K X:=
 fun A h hA R s Q' E hs k' kx=>by
  subst hs
  exact x A s Q' E hA R fun v tk r=>k' v s.heap tk (R.here r k)
theorem Wp {A:gY}{L:Addr}{fs:Frs}(hA:Wu n A L fs):A.units+64<cLine:=by have:=hA.rm.u;show A.units+64<9900;omega
def QE (i:Int):Bool:=gK i.natAbs 1000000000
theorem Sb {i:Int}(h:QE i=true):i.natAbs<=1000000000:=gp h
def mulL (o:AO) (k:Int):Option AO:=match o with| .Z_ l=>(match l with| [x]=>some (.Z_ (eH k.toNat x))|_=>none)|_=>none
def qV (a:List Int):AO->Option AO| .Z_ b=>some (.Z_ (a++b))| .list b=>some (.list ((a.map fun i=> .d (.int i))++b))|_=>none
def qU (a:List AV):AO->Option AO| .Z_ b=>some (.list (a++b.map fun i=> .d (.int i)))| .list b=>some (.list (a++b))|_=>none
def IX (o p:AO):Option AO:=match o with| .Z_ a=>qV a p| .list a=>qU a p|_=>none
inductive qT (o p q:AO):Prop
 |mk (a b:List AV) (e1:ZC o=some a) (e2:ZC p=some b) (e3:ZC q=some (a++b))
theorem L6 {o p q:AO}(h:IX o p=some q):qT o p q:=by
 cases o with
 |Z_ a=>cases p with
  |Z_ b=>cases h;exact⟨_,_,rfl,rfl,by show some _=_;rw[c6]⟩
  |list b=>cases h;exact⟨_,_,rfl,rfl,rfl⟩
  |_=>exact Xd h
 |list a=>cases p with
  |Z_ b=>cases h;exact⟨_,_,rfl,rfl,rfl⟩
  |list b=>cases h;exact⟨_,_,rfl,rfl,rfl⟩
  |_=>exact Xd h
 |_=>exact Xd h
def binI (l:Nat) (op:eS) (i j:Int) (σ:St) (K:AV->St->Prop):Prop:=match op with
 | .Add=>K (.d (.int (i+j))) σ
 | .Sub=>K (.d (.int (i - j))) σ
 | .Mult=>Wc l (QE i) σ fun σ=>K (.d (.int (i*j))) σ
 | .Mod=>Wc l (!decide (j=0)) σ fun σ=>K (.d (.int (dI i j))) σ
 | .FloorDiv=>Wc l (match decide (j=0) with|true=>false|false=>QE j) σ fun σ=>K (.d (.int (Int.fdiv i j))) σ
 |_=>False
def isAdd:eS->Bool| .Add=>true|_=>false
def isMul:eS->Bool| .Mult=>true|_=>false
theorem OL {o:eS}(h:isAdd o=true): .Add=o:=by cases o<;>first|rfl|cases h
theorem IW {o:eS}(h:isMul o=true): .Mult=o:=by cases o<;>first|rfl|cases h
def xW (l:Nat) (op:eS) (a b:AV) (σ:St) (K:AV->St->Prop):Prop:=
 match a with
 | .d x=>(match x with
  | .int i=>Un b fun j=>binI l op i j σ K
  | .str x=>zh b fun y=>ok (isAdd op) (Wc l (small (x.length+y.length)) σ fun σ=>K (.d (.str (x++y))) σ)
  |_=>False)
 | .loc i=>opt σ.hp[i]? fun o=>(match x9 b with
  |some k=>ok (isMul op) (opt (mulL o k) fun q=>Wc l (QE k && decide (k<=100000)) σ fun σ=>K (.loc σ.hp.length) {σ with hp:=σ.hp++ [q]})
  |none=>CY b fun j=>opt σ.hp[j]? fun p=>ok (isAdd op) (ok (!gZ i j) (opt (IX o p) fun q=>Wc l (small (Za o+Za p)) σ fun σ=>K (.loc σ.hp.length) {σ with hp:=σ.hp++ [q]})))
 |_=>False
section
variable {L:Addr}{fs:Frs}{ω:Wd}{K:AV->St->Prop}{i j:Nat}{u v:h_}{o p q:AO}
theorem EV {l:Nat}{op:eS}{i j:Int}{t t':Tok}(h:binI l op i j σ K):Pt G n RV L fs ω (binaryOp op (.int i t) (.int j t')) σ K X:=by
 cases op with
 |Add=>exact Pt.at (a:=AV.d (.int (i+j))) h fun A s Q' E hA R k=>PyProof.Rows.add_int (k _ _ NB)
 |Sub=>exact Pt.at (a:=AV.d (.int (i - j))) h fun A s Q' E hA R k=>PyProof.Rows.sub_int (k _ _ NB)
 |Mult=>
  apply XR h
  intro os e h A h' hA R
  refine Pt.at (σ:={σ with os:=os}) (a:=AV.d (.int (i*j))) h (fun A s Q' E hA R k=>PyProof.Rows.mul_int (k _ _ NB) (IntMulOk.of_left ?_)) hA R
  have:=Sb e
  exact intBits_le_64 (by omega) (by omega)
 |Mod=>
  apply XR h
  intro os e h
  exact Pt.at (σ:={σ with os:=os}) (a:=AV.d (.int (dI i j))) h (fun A s Q' E hA R k=>mod_int' (by simpa using e) (k _ _ NB))
 |FloorDiv=>
  apply XR h
  intro os e h A h' hA R
  have hj:j≠0/\QE j=true:=by
   by_cases q:j=0
   ·rw[decide_eq_true q] at e;cases e
   ·rw[decide_eq_false q] at e;exact⟨q,e⟩
  exact Pt.at (σ:={σ with os:=os}) (a:=AV.d (.int (Int.fdiv i j))) h (fun A s Q' E hA R k=>PyProof.Rows.floordiv_int hj.1 (k _ _ NB) (.inl (PyProof.noPylong_small (by have:=Sb hj.2;omega)))) hA R
 |_=>exact gV h
theorem EU (hi:σ.hp[i]?=some o) (hj:σ.hp[j]?=some p) (hq:IX o p=some q) (hc:small (Za o+Za p)=true) (ru:RV ω (.loc i) u) (rv:RV ω (.loc j) v) (h:K (.loc σ.hp.length) {σ with hp:=σ.hp++ [q]}):Pt G n RV L fs ω (binaryOp .Add u v) σ K X:=fun A h' hA R=>by
 obtain ⟨la,lb,ea,eb,eq⟩:=L6 hq
 obtain ⟨ad,m,rest,vs,rfl,rs,S,same,_⟩:=R.lst hi ea ru
 obtain ⟨bd,m2,QD,us,rfl,KO,S2,nM,_⟩:=R.lst hj eb rv
 obtain ⟨m3,F0,S3,_,new⟩:=R.newL
 obtain ⟨n1,g1⟩:=S.YF
 obtain ⟨n2,g2⟩:=S2.YF
 intro s Q' E hs k' kx
 subst hs
 refine PyProof.Rows.add_lists S3.fr (WL s.heap L []) ⟨_,g1,rfl,n1,rfl⟩ ⟨_,g2,rfl,n2,rfl⟩ (fun h' F N=>k' _ h' s.toks (new _ q _ (vs++us) _ eq (ZT.append KO rs) (S3.Jp F N (VU _) ⟨0,Z6 _ _ _⟩) h)) ?_
 rw[ZT.length rs,ZT.length KO,<-YZ ea,<-YZ eb]
 exact Ze hc
theorem IV {v:h_}:∀(n:Nat) (a:Array h_),List.foldl (fun x1 x2=>x1++x2) a (eH n #[v])=a++(eH n v).toArray:=by
 intro n
 induction n with
 |zero=>intro a;simp
 |succ n ih=>
  intro a
  rw[List.replicate_succ,List.foldl_cons,ih,List.replicate_succ]
  apply Array.ext'
  simp
theorem ZT.rep {x:Int}{v:h_}(r:RV ω (.d (.int x)) v):∀z:Nat,Xn ω (eH z (.d (.int x))) (eH z v)
 |0=>rfl
 |z+1=>⟨v,_,rfl,r,ZT.rep r z⟩
theorem ET {k:Int}{t:Tok}(hi:σ.hp[i]?=some o) (hq:mulL o k=some q) (hc:(QE k && decide (k<=100000))=true) (ru:RV ω (.loc i) u) (h:K (.loc σ.hp.length) {σ with hp:=σ.hp++ [q]}):Pt G n RV L fs ω (binaryOp .Mult u (.int k t)) σ K X:=fun A h' hA R=>by
 cases o with
 |Z_ l=>cases l with
  |nil=>exact Xd hq
  |cons x l=>cases l with
   |cons=>exact Xd hq
   |nil=>
    cases hq
    have hc2:=g6.mp hc
    have h3:=Sb hc2.1
    have h4:k<=100000:=of_decide_eq_true hc2.2
    obtain ⟨ad,m,rest,vs,rfl,rs,S,same,_⟩:=R.lst hi (l:= [.d (.int x)]) rfl ru
    obtain ⟨m3,F0,S3,_,new⟩:=R.newL
    obtain ⟨v,_,rfl,qS,rfl⟩:=rs
    obtain ⟨n1,g1⟩:=S.YF
    intro s Q' E hs k' kx
    subst hs
    refine PyProof.Rows.mul_list (x:=k) S3.fr (WL s.heap L []) g1 (by omega) (by omega) (by simp only[gM,List.length_singleton];omega) fun h' F N=>k' _ h' s.toks ?_
    refine new _ (.Z_ (eH k.toNat x)) _ (eH k.toNat v) _ rfl (by rw[List.map_replicate];exact ZT.rep qS _) (S3.Jp F N (VU _) ⟨0,?_⟩) h
    rw[Z6]
    have e2:([v].toArray:Array h_).isEmpty=false:=rfl
    rw[e2,if_neg (by decide),IV]
    simp
 |_=>exact Xd hq
theorem ES {l:Nat}{op:eS}{a b:AV}(h:xW l op a b σ K):yl G n op a b σ K X:=fun L fs ω u v ru rv=>by
 cases a with
 |d x=>cases x with
  |int i=>
   obtain ⟨t,rfl⟩:=Uo ru
   apply YR h rv
   intro j t' h
   exact EV h
  |str x=>
   obtain ⟨t,rfl⟩:=U5 ru
   apply Na h rv
   intro y t' h
   obtain ⟨e,hf⟩:=ZS h
   cases OL e
   apply XR hf
   intro os hc h
   exact Pt.at (σ:={σ with os:=os}) (a:=AV.d (.str (x++y))) h (fun A s Q' E hA R k=>PyProof.Rows.add_str (fun t' tk=>k _ _ Bk) (Ze hc))
  |_=>exact gV h
 |loc i=>
  obtain ⟨o,hi,h⟩:=Z3 h
  cases e:x9 b with
  |some k=>
   rw[e] at h
   rw[VR e] at rv
   obtain ⟨t,rfl⟩:=Uo rv
   obtain ⟨e,h⟩:=ZS h
   obtain ⟨q,hq,hf⟩:=Z3 h
   cases IW e
   apply XR hf
   intro os hc h
   exact ET (σ:={σ with os:=os}) hi hq hc ru h
  |none=>
   rw[e] at h
   apply U4 h rv
   intro j h rv
   obtain ⟨p,hj,h⟩:=Z3 h
   obtain ⟨e,h⟩:=ZS h
   obtain ⟨_,h⟩:=ZS h
   obtain ⟨q,hq,hf⟩:=Z3 h
   cases OL e
   apply XR hf
   intro os hc h
   exact EU (σ:={σ with os:=os}) hi hj hq hc ru rv h
 |_=>exact gV h
end
end
section
open PySem.SeqAt PySem.MeetsSeq PySem.SeqRoads2 PySem.EqNone
def UM:Bool->Bool->Bool|true,b=>b|false,b=> !b
theorem L5 {a b:Bool}:(a==b)=UM a b:=by cases a<;>cases b<;>rfl
def tw:Bool->fW|true=> .Eq|false=> .NotEq
def KN:Bool->Bool->Bool|true,c=>c|false,c=> !c
def nK (x y:D):Option Bool:=match x with
 | .none=>(match y with| .none=>some true| .str _=>some false|_=>none)
 | .str a=>(match y with| .none=>some false| .str b=>some (sq a b)|_=>none)
 | .bool a=>(match y with| .bool b=>some (UM a b)|_=>none)
 | .int a=>(match y with| .int b=>some (decide (a=b))|_=>none)
 | .tup _=>none
def nJ (o p:AO):Option Bool:=match o with
 | .Z_ a=>(match p with| .Z_ b=>some (decide (a=b))| .list b=>(match a with| []=>some (gZ b.length 0)|_=>none)|_=>none)
 | .list a=>(match p with| .Z_ b=>(match b with| []=>some (gZ a.length 0)|_=>none)|_=>none)
 |_=>none
def PR:D->Bool| .none=>true|_=>false
def isNone:AV->Option Bool
 | .d x=>some (PR x)
 | .loc _=>some false
 |_=>none
def xV (a:AV):Bool:=match a with| .d x=>PR x|_=>false
def dS:D->Option Str| .str s=>some s|_=>none
abbrev xU:List D->Option (List Str):=Te dS
theorem CV {a:D}{i:Str}(h:dS a=some i):a= .str i:=by cases a<;>cases h;rfl
def Td (x:Str):List Str->Bool| []=>false|y::r=>match sq y x with|true=>true|false=>Td x r
def xT (f:Int->Int->Bool) (a b:AV) (σ:St) (K:AV->St->Prop):Prop:=Un a fun i=>Un b fun j=>K (.d (.bool (f i j))) σ
def qR (s:Bool) (a b:AV) (σ:St) (K:AV->St->Prop):Prop:=match a with
 | .d x=>opt (x7 b) fun y=>opt (nK x y) fun c=>K (.d (.bool (KN s c))) σ
 | .loc i=>CY b fun j=>opt σ.hp[i]? fun o=>opt σ.hp[j]? fun p=>opt (nJ o p) fun c=>K (.d (.bool (KN s c))) σ
 |_=>False
def qQ (s:Bool) (a b:AV) (σ:St) (K:AV->St->Prop):Prop:=zh a fun y=>opt (x7 b) fun d=>match d with
 | .str x=>K (.d (.bool (KN s (!(dY.Str.occurrences x y 0 x.length 1).isEmpty)))) σ
 | .tup l=>ok s (opt (xU l) fun l=>K (.d (.bool (Td y l))) σ)
 |_=>False
def qP (s:Bool) (a b:AV) (σ:St) (K:AV->St->Prop):Prop:=opt (isNone a) fun c=>ok (xV b) (K (.d (.bool (KN s c))) σ)
def IU (op:fW) (a b:AV) (σ:St) (K:AV->St->Prop):Prop:=
 match op with
 | .Lt=>xT (fun i j=>decide (i<j)) a b σ K
 | .LtE=>xT (fun i j=>decide (i<=j)) a b σ K
 | .Gt=>xT (fun i j=>decide (j<i)) a b σ K
 | .GtE=>xT (fun i j=>decide (j<=i)) a b σ K
 | .Eq=>qR true a b σ K
 | .NotEq=>qR false a b σ K
 | .Is=>qP true a b σ K
 | .IsNot=>qP false a b σ K
 | .In=>qQ true a b σ K
 | .NotIn=>qQ false a b σ K
theorem PO {a b:Str}:(a==b)=sq a b:=by
 cases h:sq a b with
 |true=>rw[Zv.mp h];simp
 |false=>
  have:a≠b:=fun e=>by rw[Zv.mpr e] at h;cases h
  simpa using this
section
variable {G:Gm}{n:Nat}{Φ:Fm}{σ Z4 ZW Zq ZH:St}{X:XK}
theorem Bg {x y:D}{c:Bool}(h:nK x y=some c) {L:Addr}{fs:Frs}{ω:Wd}{u v:h_}(ru:RV ω (.d x) u) (rv:RV ω (.d y) v) {K:AV->St->Prop}(b:Bool) (k:K (.d (.bool (KN b c))) σ):Pt G n RV L fs ω (fq (tw b) u v) σ K X:=by
 refine Pt.at k fun A s Q' E hA R q=> ?_
 have q:=fun tk=>q _ tk OO
 cases x with
 |none=>
  obtain rfl:=I6 ru
  cases y with
  |none=>obtain rfl:=I6 rv;cases h;cases b;exact ne_none_none (q _);exact eq_none_none (q _)
  |str=>obtain ⟨t,rfl⟩:=U5 rv;cases h;cases b;exact ne_none_str (q _);exact eq_none_str (q _)
  |_=>exact Xd h
 |str a=>
  obtain ⟨t,rfl⟩:=U5 ru
  cases y with
  |none=>obtain rfl:=I6 rv;cases h;cases b;exact ne_str_none (q _);exact eq_str_none (q _)
  |str=>obtain ⟨t,rfl⟩:=U5 rv;cases h;cases b;exact RcNeAt.str_str _ _ _ _ _ _ _ _ (by rw[PO];exact q _);exact PyProof.Rows.eq_str (by rw[PO];exact q _)
  |_=>exact Xd h
 |bool a=>cases y with
  |bool a'=>obtain rfl:=I7 ru;obtain rfl:=I7 rv;cases h;cases b;exact RcNeAt.bool_bool _ _ _ _ _ _ (by rw[L5];exact q _);exact PyProof.Rows.eq_bool (by rw[L5];exact q _)
  |_=>exact Xd h
 |int a=>cases y with
  |int=>obtain ⟨t,rfl⟩:=Uo ru;obtain ⟨t',rfl⟩:=Uo rv;cases h;cases b;exact RcNeAt.int_int _ _ _ _ _ _ _ _ (q _);exact PyProof.Rows.eq_int (q _)
  |_=>exact Xd h
 |tup=>exact Xd h
theorem VP {ω:Wd}:∀{l:List Int}{vs:List h_},Xn ω (l.map fun i=> .d (.int i)) vs->IntsAre vs l
 | [],_,h=>by obtain rfl:_= []:=h;exact .nil
 |i::l,_,⟨v,r,e,a,b⟩=>by subst e;obtain ⟨t,rfl⟩:=Uo a;exact .cons i t (VP b)
theorem Bf {i j:Nat}{o p:AO}{c:Bool}(hi:σ.hp[i]?=some o) (hj:σ.hp[j]?=some p) (h:nJ o p=some c) {L:Addr}{fs:Frs}{ω:Wd}{u v:h_}(ru:RV ω (.loc i) u) (rv:RV ω (.loc j) v) {K:AV->St->Prop}(b:Bool) (k:K (.d (.bool (KN b c))) σ):
  Pt G n RV L fs ω (fq (tw b) u v) σ K X:=by
 have gen:∀{la lb:List AV},ZC o=some la->ZC p=some lb->(la= []\/lb= [])->c=gZ la.length lb.length->Pt G n RV L fs ω (fq (tw b) u v) σ K X:=by
  intro la lb ea eb h0 hc
  intro A₀ h₀ Sa R₀
  refine Pt.at k (fun A s Q' E hA R q=> ?_) Sa R₀
  obtain ⟨ad,m,rest,vs,rfl,rs,S,_,_⟩:=R.lst hi ea ru
  obtain ⟨bd,m2,QD,us,rfl,KO,S2,_,_⟩:=R.lst hj eb rv
  obtain ⟨n1,g1⟩:=S.YF
  obtain ⟨n2,g2⟩:=S2.YF
  have h1:s.heap.IsList ad vs.toArray:=⟨_,g1,rfl,n1,rfl⟩
  have h2:s.heap.IsList bd us.toArray:=⟨_,g2,rfl,n2,rfl⟩
  have hu:=Wp hA
  have l1:vs.length=la.length:=ZT.length rs
  have l2:us.length=lb.length:=ZT.length KO
  by_cases hz:la.length=lb.length
  ·have hc':c=true:=by rw[hc,hz];exact c_ _
   have z1:la.length=0:=by rcases h0 with rfl|rfl<;>simp at hz ⊢<;>assumption
   have zv:vs= []:=bg (l1.trans z1)
   have zu:us= []:=bg (l2.trans (hz▸z1))
   subst zv;subst zu;subst hc'
   cases b
   ·exact PySem.W.ne_intsK (ns:= []) (ms:= []) h1 .nil h2 .nil hu (q _ _ OO)
   ·exact PySem.W.eq_intsK (ns:= []) (ms:= []) h1 .nil h2 .nil hu (q _ _ OO)
  ·have hc':c=false:=by
    rw[hc]
    cases e:gZ la.length lb.length with
    |false=>rfl
    |true=>exact absurd (e_ e) hz
   subst hc'
   have hsz:(vs.toArray.size !=us.toArray.size)=true:=by
    rw[gM,gM,l1,l2];simpa using hz
   cases b
   ·exact RcNeAt.lists_lengths h1 h2 hsz (by omega) _ _ _ _ (q _ _ OO)
   ·exact eq_list_lengthsAt h1 h2 hsz (by omega) (q _ _ OO)
 cases o with
 |Z_ a=>cases p with
  |Z_ b'=>
   cases h
   intro A₀ h₀ Sa R₀
   refine Pt.at k (fun A s Q' E hA R q=> ?_) Sa R₀
   obtain ⟨ad,m,rest,vs,rfl,rs,S,_,_⟩:=R.lst hi rfl ru
   obtain ⟨bd,m2,QD,us,rfl,KO,S2,_,_⟩:=R.lst hj rfl rv
   obtain ⟨n1,g1⟩:=S.YF
   obtain ⟨n2,g2⟩:=S2.YF
   cases b
   ·exact PySem.W.ne_intsK ⟨_,g1,rfl,n1,rfl⟩ (VP rs) ⟨_,g2,rfl,n2,rfl⟩ (VP KO) (Wp hA) (q _ _ OO)
   ·exact PySem.W.eq_intsK ⟨_,g1,rfl,n1,rfl⟩ (VP rs) ⟨_,g2,rfl,n2,rfl⟩ (VP KO) (Wp hA) (q _ _ OO)
  |list b'=>cases a with
   |nil=>
    intro A₀ h₀ Sa R₀
    exact gen (la:= []) rfl rfl (.inl rfl) (by cases h;cases b'<;>rfl) Sa R₀
   |cons=>exact @Xd _ _ _ h
  |_=>exact @Xd _ _ _ h
 |list a=>cases p with
  |Z_ b'=>cases b' with
   |nil=>cases h;intro A₀ h₀ Sa R₀;exact gen rfl rfl (.inr rfl) rfl Sa R₀
   |cons=>exact @Xd _ _ _ h
  |_=>exact @Xd _ _ _ h
 |_=>exact @Xd _ _ _ h
theorem ER {s x:Str}:(s.cps.toList==x.cps.toList)=sq s x:=by
 rw[<-PO]
 cases h:(s==x) with
 |true=>rw[beq_iff_eq.mp h];exact beq_self_eq_true _
 |false=>
  have h:s≠x:=by simpa using h
  have:s.cps.toList≠x.cps.toList:=fun e=>h (by cases s;cases x;congr 1;exact dU.mp e)
  simpa using this
theorem IT {ω:Wd}{x:Str}{l:List D}{l':List Str}(h:xU l=some l'):∀{vs:List h_},ZE ω.B l vs->vs.any (fun y=>match y with| .str s _=>s.cps.toList==x.cps.toList|_=>false)=Td x l'/\∀y∈vs,∃s t,y= .str s t:=by
 have m:=UN h
 clear h
 induction m with
 |nil=>intro vs r;unfold ZE at r;subst r;exact⟨rfl,fun _ h=>nomatch h⟩
 | @cons d s _ q e _ ih=>
  intro vs r
  unfold ZE at r
  obtain ⟨v,r,rfl,a,b⟩:=r
  obtain ⟨i1,i2⟩:=ih b
  rw[CV e] at a
  unfold Y8 at a
  obtain ⟨t,rfl⟩:=a
  refine⟨?_,fun y hy=> ?_⟩
  ·rw[dh,i1]
   show ((s.cps.toList==x.cps.toList)||Td x q)=(match sq s x with|true=>true|false=>Td x q)
   rw[ER]
   cases sq s x<;>rfl
  ·rcases gy.mp hy with rfl|hy
   ·exact⟨s,t,rfl⟩
   ·exact i2 y hy
theorem KJ {a:AV}{c:Bool}(h:isNone a=some c) {ω:Wd}{u:h_}(r:RV ω a u):(u== .none)=c/\(c=false->PySem.plainIs u .none=true/\u≠ .none):=by
 cases a with
 |d x=>
  cases h
  cases x with
  |none=>obtain rfl:=I6 r;exact⟨rfl,fun e=>nomatch e⟩
  |bool b=>obtain rfl:=I7 r;exact⟨rfl,fun _=>⟨rfl,fun e=>nomatch e⟩⟩
  |int i=>obtain ⟨t,rfl⟩:=Uo r;exact⟨rfl,fun _=>⟨rfl,fun e=>nomatch e⟩⟩
  |str i=>obtain ⟨t,rfl⟩:=U5 r;exact⟨rfl,fun _=>⟨rfl,fun e=>nomatch e⟩⟩
  |tup l=>obtain ⟨a,vs,rfl,_⟩:=KR r;exact⟨rfl,fun _=>⟨rfl,fun e=>nomatch e⟩⟩
 |loc=>cases h;obtain ⟨a,_,rfl⟩:=r;exact⟨rfl,fun _=>⟨rfl,fun e=>nomatch e⟩⟩
 |_=>exact Xd h
theorem L4 {a:AV}(h:xV a=true):a= .d .none:=by
 cases a with
 |d x=>cases x<;>first|rfl|cases h
 |_=>cases h
section
variable {K:AV->St->Prop}{a b:AV}{L:Addr}{fs:Frs}{ω:Wd}{u v:h_}
theorem PN {f:Int->Int->Bool}{op:fW}(g:∀{A s Q' E} i t j t',Q' (.bool (f i j)) s->gW (gO G.prog G.w) A (fq op (.int i t) (.int j t')) Q' E s) (h:xT f a b σ K) (ru:RV ω a u) (rv:RV ω b v):Pt G n RV L fs ω (fq op u v) σ K X:=by
 apply YR h ru
 intro i t h
 apply YR h rv
 intro j t' h
 exact Pt.at h fun A s Q' E hA R q=>g i t j t' (q _ _ OO)
theorem IS {s:Bool}(h:qR s a b σ K) (ru:RV ω a u) (rv:RV ω b v):Pt G n RV L fs ω (fq (tw s) u v) σ K X:=by
 cases a with
 |d x=>
  obtain ⟨y,e,h⟩:=Z3 h
  obtain ⟨c,e',h⟩:=Z3 h
  rw[PV e] at rv
  exact Bg e' ru rv s h
 |loc i=>
  apply U4 h rv
  intro j h rv
  obtain ⟨o,hi,h⟩:=Z3 h
  obtain ⟨p,hj,h⟩:=Z3 h
  obtain ⟨c,e,h⟩:=Z3 h
  exact Bf hi hj e ru rv s h
 |_=>exact gV h
def qO:Bool->fW|true=> .Is|false=> .IsNot
theorem IQ {s:Bool}(h:qP s a b σ K) (ru:RV ω a u) (rv:RV ω b v):Pt G n RV L fs ω (fq (qO s) u v) σ K X:=by
 obtain ⟨c,e,h⟩:=Z3 h
 obtain ⟨e',h⟩:=ZS h
 rw[L4 e'] at rv
 obtain rfl:=I6 rv
 obtain ⟨e1,e2⟩:=KJ e ru
 refine Pt.at h fun A s' Q' E hA R q=> ?_
 cases s with
 |true=>exact is_none (by rw[e1];exact q _ _ OO)
 |false=>
  cases c
  ·exact wpAny_isNot_other (e2 rfl).1 (e2 rfl).2 (q _ _ OO)
  ·obtain rfl:u= .none:=beq_iff_eq.mp e1
   exact wpAny_isNot_self (by rfl) (q _ _ OO)
def qN:Bool->fW|true=> .In|false=> .NotIn
theorem IP {s:Bool}(h:qQ s a b σ K) (ru:RV ω a u) (rv:RV ω b v):Pt G n RV L fs ω (fq (qN s) u v) σ K X:=by
 apply Na h ru
 intro y t h
 obtain ⟨d,e,h⟩:=Z3 h
 rw[PV e] at rv
 cases d with
 |str x=>
  obtain ⟨t',rfl⟩:=U5 rv
  cases s
  ·exact Pt.at h fun A s Q' E hA R q=>PyProof.Rows.notIn_str (q _ _ OO)
  ·exact Pt.at h fun A s Q' E hA R q=>PyProof.Rows.in_str (q _ _ OO)
 |tup l=>
  obtain ⟨e,h⟩:=ZS h
  cases e
  obtain ⟨l',e,h⟩:=Z3 h
  obtain ⟨ta,vs,rfl,eB,rs⟩:=KR rv
  obtain ⟨e1,e2⟩:=IT (x:=y) e rs
  refine Pt.at h fun A s Q' E hA R q=> ?_
  refine in_tupleAt (items:=vs.toArray) (fun y'=>match y' with| .str s _=>s.cps.toList==y.cps.toList|_=>false) ⟨_,R.Vd _ _ eB,rfl,_,rfl⟩ (fun y' hy=> ?_) ?_
  ·obtain ⟨s',t',rfl⟩:=e2 y' (by simpa using hy)
   exact(EqGives.str s' y t' t).at _ _
  ·rw[show vs.toArray.any (fun y'=>match y' with| .str s _=>s.cps.toList==y.cps.toList|_=>false)=Td y l' by rw[<-e1];simp]
   exact q _ _ OO
 |_=>exact gV h
theorem SM {op:fW}(h:IU op a b σ K):Jh G n op a b σ K X:=fun L fs ω u v ru rv=>by
 intro A h' hA R
 cases op with
 |Lt=>exact PN (fun i t j t'=>wpAny_lt_int) h ru rv hA R
 |LtE=>exact PN (fun i t j t'=>PyProof.Rows.le_int) h ru rv hA R
 |Gt=>exact PN (fun i t j t'=>PyProof.Rows.gt_int) h ru rv hA R
 |GtE=>exact PN (fun i t j t'=>PyProof.Rows.ge_int) h ru rv hA R
 |Eq=>exact IS (s:=true) h ru rv hA R
 |NotEq=>exact IS (s:=false) h ru rv hA R
 |Is=>exact IQ (s:=true) h ru rv hA R
 |IsNot=>exact IQ (s:=false) h ru rv hA R
 |In=>exact IP (s:=true) h ru rv hA R
 |NotIn=>exact IP (s:=false) h ru rv hA R
end
def isNeg:UnaryOp->Bool| .USub=>true|_=>false
def nI (op:UnaryOp) (a:AV) (σ:St) (K:AV->St->Prop):Prop:=ok (isNeg op) (Un a fun i=>K (.d (.int (-i))) σ)
theorem Be {op:UnaryOp}{a:AV}{K:AV->St->Prop}(h:nI op a σ K):Q9 G n RV (unaryOp op) a σ K X:=fun L fs ω u ru=>by
 obtain ⟨e,h⟩:=ZS h
 cases op with
 |USub=>
  apply YR (by assumption) ru
  intro i t h
  exact Pt.at h fun A s Q' E hA R q=>PyProof.Rows.neg_int (q _ _ NB)
 |_=>cases e
def KH (l:Nat) (a:AV) (σ:St) (K:Bool->St->Prop):Prop:=opt (q_ a) fun b=>br l b σ K
theorem SK {l:Nat}{a:AV}{K:Bool->St->Prop}(h:KH l a σ K):Jg G n a σ K X:=fun L fs ω u ru=>by
 obtain ⟨b,e,h⟩:=Z3 h
 rw[I_ e] at ru
 obtain rfl:=I7 ru
 obtain ⟨os,h⟩:=x6 h
 exact Pt.at (RR:=RB) (σ:={σ with os:=os}) h (fun A s Q' E hA R q=>wpAny_truthy_bool (q _ _ rfl))
def PM:AO->Option (AV×AO)
 | .list l=>match l with| []=>none|_=>some (l.getD (l.length - 1) .any,.list l.dropLast)
 | .Z_ l=>match l with| []=>none|_=>some (.d (.int (l.getD (l.length - 1) 0)),.Z_ l.dropLast)
 |_=>none
theorem R_:∀(r:List h_) (v:h_),(v::r).eraseIdx r.length=(v::r).take r.length
 | [],v=>rfl
 |u::r,v=>by
  show v::(u::r).eraseIdx r.length=v::(u::r).take r.length
  rw[R_]
theorem R9 (vs:List h_):vs.toArray.eraseIdxIfInBounds (vs.toArray.size - 1)=vs.dropLast.toArray:=by
 cases vs with
 |nil=>rfl
 |cons v r=>
  have h:(v::r).toArray.size - 1<(v::r).toArray.size:=by simp
  rw[Array.eraseIdxIfInBounds,dif_pos h]
  apply dU.mp
  simp[aD,R_]
theorem ZT.dropLast {ω:Wd}{l:List AV}{vs:List h_}(r:Xn ω l vs):Xn ω l.dropLast vs.dropLast:=by
 rw[aD,aD,ZT.length r];exact ZT.take r
set_option tactic.hygienic true in
theorem M9 {o o':AO}{a:AV}(h:PM o=some (a,o')):∃l,ZC o=some l/\ZC o'=some l.dropLast/\l≠ []/\l[l.length - 1]?=some a:=by
 cases o with
 |list l=>cases l with
  |nil=>exact Xd h
  |cons x r=>
   have h:some ((x::r).getD r.length AV.any,AO.list (x::r).dropLast)=some (a,o'):=h
   cases h
   exact⟨x::r,rfl,rfl,(fun e=>nomatch e),by rw[fG,show (x::r).length - 1=r.length from rfl,f9 (fU r.length)];rfl⟩
 |Z_ l=>cases l with
  |nil=>exact Xd h
  |cons x r=>
   have h:some (AV.d (.int ((x::r).getD r.length 0)),AO.Z_ (x::r).dropLast)=some (a,o'):=h
   cases h
   refine⟨(x::r).map fun i=> .d (.int i),rfl,congrArg some List.map_dropLast,(fun e=>nomatch e),?_⟩
   rw[gn,d8,fG,show (x::r).length - 1=r.length from rfl,f9 (fU r.length)];rfl
 |_=>exact Xd h
def isStr (a:AV) (H:List AO):Option Bool:=match a with
 | .d x=>(match x with| .str _=>some true|_=>none)
 | .loc i=>(match H[i]? with|some o=>(match Vc o with|true=>some false|false=>none)|none=>none)
 |_=>none
def qM (a:AV) (H:List AO) (p:Nat->Prop):Prop:=match a with
 | .loc i=>opt H[i]? fun o=>ok (Vc o) (p (Za o))
 | .d (.str s)=>p s.length
 | .d (.tup l)=>p l.length
 |_=>False
abbrev IM:List AV->Option (List Bool):=Te q_
abbrev strsOf:List AV->Option (List Str):=Te x8
def M8:List Str->Nat| []=>0|x::r=>x.length+M8 r
def Vu:List Int->Int->Option (List Int)| [],_=>none|y::r,x=>match decide (y=x) with|true=>some r|false=>(match Vu r x with|some r'=>some (y::r')|none=>none)
def insI (l:List Int) (k:Int) (x:Int):List Int:=l.take k.toNat++x::l.drop k.toNat
def Bd (s:Str):Option Nat:=match s.cps.toList with| [c]=>some c|_=>none
def isNil {α:Type}:List α->Bool| []=>true|_=>false
def M7 (a:AV) (H:List AO) (k:Nat->AO->Prop):Prop:=CY a fun i=>opt H[i]? fun o=>k i o
def xS (l:Nat) (as:List AV) (σ:St) (K:AV->St->Prop):Prop:=match as with
 | [a]=>Un a fun i=>K (.K4 0 i 1) σ
 | [a,b]=>Un a fun i=>Un b fun j=>K (.K4 i j 1) σ
 | [a,b,c]=>Un a fun i=>Un b fun j=>Un c fun k=>ok (decide (k= -1)) (Wc l (match QE i with|true=>QE j|false=>false) σ fun σ=>K (.K4 i j (-1)) σ)
 |_=>False
def xR (l:Nat) (b:BI) (as:List AV) (σ:St) (K:AV->St->Prop):Prop:=
 match b with
 | .len=>KQ as fun a=>qM a σ.hp fun k=>Wc l (small k) σ fun σ=>K (.d (.int k)) σ
 | .abs=>KQ as fun a=>Un a fun i=>K (.d (.int (match decide (i<0) with|true=> -i|false=>i))) σ
 | .min=>E5 as fun a b=>Un a fun i=>Un b fun j=>K (.d (.int (min i j))) σ
 | .max=>E5 as fun a b=>Un a fun i=>Un b fun j=>K (.d (.int (max i j))) σ
 | .ord=>KQ as fun a=>zh a fun s=>opt (Bd s) fun c=>K (.d (.int c)) σ
 | .chr=>KQ as fun a=>Un a fun i=>Wc l (match decide (0<=i) with|true=>decide (i<=1114111)|false=>false) σ fun σ=>K (.d (.str (Zj i.toNat))) σ
 | .range=>xS l as σ K
 | .list=>KQ as fun a=>M7 a σ.hp fun i o=>ok (Vc o) (Wc l (small (Za o)) σ fun σ=>K (.loc σ.hp.length) {σ with hp:=σ.hp++ [o]})
 | .tuple=>KQ as fun a=>M7 a σ.hp fun i o=>opt (ZC o) fun as=>opt (I5 as) fun ds=>Wc l (small ds.length) σ fun σ=>K (.d (.tup ds)) σ
 | .isinstance=>E5 as fun a b=>match b with| .bi .str=>opt (isStr a σ.hp) fun c=>K (.d (.bool c)) σ|_=>False
 | .all=>KQ as fun a=>M7 a σ.hp fun i o=>opt (ZC o) fun as=>opt (IM as) fun bs=>K (.d (.bool (bs.all id))) σ
 | .Yi=>E5 as fun a b=>M7 a σ.hp fun i o=>ok (Vc o) (Wc l (small (Za o)) σ fun σ=>K (.d .none) {σ with hp:=σ.hp.set i (KU o b)})
 | .Fp=>KQ as fun a=>M7 a σ.hp fun i o=>opt (PM o) fun p=>Wc l (small (Za o)) σ fun σ=>K p.1 {σ with hp:=σ.hp.set i p.2}
 | .lextend=>E5 as fun a b=>M7 a σ.hp fun i o=>M7 b σ.hp fun j p=>ok (!gZ i j) (opt (IX o p) fun q=>Wc l (small (Za o+Za p)) σ fun σ=>K (.d .none) {σ with hp:=σ.hp.set i q})
 | .SY=>match as with
  | [a,b,c]=>M7 a σ.hp fun i o=>Un b fun k=>Un c fun x=>opt (I3 o) fun xs=>Wc l (match decide (0<=k) with|true=>(match decide (k<=xs.length) with|true=>small xs.length|false=>false)|false=>false) σ fun σ=>K (.d .none) {σ with hp:=σ.hp.set i (.Z_ (insI xs k x))}
  |_=>False
 | .SX=>E5 as fun a b=>M7 a σ.hp fun i o=>Un b fun x=>opt (I3 o) fun xs=>opt (Vu xs x) fun ys=>Wc l (small xs.length) σ fun σ=>K (.d .none) {σ with hp:=σ.hp.set i (.Z_ ys)}
 | .K5=>E5 as fun a b=>M7 a σ.hp fun i o=>Un b fun k=>opt (U3 o) fun d=>K (match Jk d k with|some a=>a|none=> .d .none) σ
 | .Qa=>KQ as fun a=>zh a fun s=>Wc l (small (gm s).length) σ fun σ=>K (.d (.str (gm s))) σ
 | .UQ=>E5 as fun a b=>zh a fun s=>M7 b σ.hp fun i o=>opt (ZC o) fun as=>opt (strsOf as) fun ss=>Wc l (small (M8 ss+ss.length*s.length)) σ fun σ=>K (.d (.str (Txt.join s ss))) σ
 | .reversed=>KQ as fun a=>M7 a σ.hp fun i o=>ok (Vc o) (K (.loc σ.hp.length) {σ with hp:=σ.hp++ [.Vm i (Za o)]})
 | .enumerate=>KQ as fun a=>M7 a σ.hp fun i o=>ok (Vc o) (K (.loc σ.hp.length) {σ with hp:=σ.hp++ [.en i 0]})
 | .sorted=>KQ as fun a=>M7 a σ.hp fun i o=>opt (U3 o) fun d=>ok (isNil d) (K (.loc σ.hp.length) {σ with hp:=σ.hp++ [.Z_ []]})
 |_=>False
end
section
variable {G:Gm}{n:Nat}{Φ:Fm}{σ Z4 ZW Zq ZH:St}{X:XK}{K:AV->St->Prop}{L:Addr}{fs:Frs}{ω:Wd}
theorem Bc {i:Nat}{o:AO}{u:h_}(hi:σ.hp[i]?=some o) (hl:Vc o=true) (hz:small (Za o)=true) (ru:RV ω (.loc i) u) (k:K (.d (.int (Za o))) σ):Pt G n RV L fs ω (call (.builtin "len") [u]) σ K X:=fun _ _ hA R=>by
 obtain ⟨l,hl'⟩:=Xx hl
 obtain ⟨ad,m,rest,vs,rfl,rs,S,same,_⟩:=R.lst hi hl' ru
 have e:vs.length=Za o:=by rw[ZT.length rs,YZ hl']
 exact yv S (by rw[e];exact Se hz) fun t=>R.here (by rw[e];exact NB) k
theorem Bb {x:Str}{u:h_}(hz:small x.length=true) (ru:RV ω (.d (.str x)) u) (k:K (.d (.int x.length)) σ):Pt G n RV L fs ω (call (.builtin "len") [u]) σ K X:=fun _ _ hA R=>by
 obtain ⟨t,rfl⟩:=U5 ru
 exact BN (Se hz) fun t=>R.here NB k
theorem Ba {l:List D}{u:h_}(hz:small l.length=true) (ru:RV ω (.d (.tup l)) u) (k:K (.d (.int l.length)) σ):Pt G n RV L fs ω (call (.builtin "len") [u]) σ K X:=fun A h hA R=>by
 obtain ⟨a,vs,rfl,eB,rs⟩:=KR ru
 obtain ⟨m,lm,R'⟩:=id R
 obtain ⟨V,S,_⟩:=R'.ss
 intro s Q' E hs k' kx
 subst hs
 have e:vs.length=l.length:=ZE.length rs
 have hT:IsTup s.heap a vs.toArray:=⟨_,S.keep _ _ eB,rfl,_,rfl⟩
 have hz':=Se hz
 refine len_tuple hT (by rw[gM];omega) (k' _ s.heap _ (R.here (by rw[gM,e];exact NB) k))
theorem A_ {i:Nat}{o:AO}{u:h_}(hi:σ.hp[i]?=some o) (hl:Vc o=true) (hz:small (Za o)=true) (ru:RV ω (.loc i) u) (k:K (.loc σ.hp.length) {σ with hp:=σ.hp++ [o]}):Pt G n RV L fs ω (call (.type "list") [u]) σ K X:=fun A h hA R=>by
 obtain ⟨l,hl'⟩:=Xx hl
 obtain ⟨ad,m,rest,vs,rfl,rs,S,same,_⟩:=R.lst hi hl' ru
 obtain ⟨m3,F0,S3,_,new⟩:=R.newL
 obtain ⟨nn,ge⟩:=S.YF
 intro s Q' E hs k' kx
 subst hs
 refine call_list_seq (hsz:=by rw[gM,ZT.length rs,<-YZ hl'];exact Ze hz) ad (.inl rfl) ge rfl rfl fun h' c' hk hD=>k' _ h' s.toks ?_
 exact new _ o l vs h' hl' rs (S3.grown hk (VU _) hD ⟨c',Z6 _ _ _⟩) k
theorem EP {i:Nat}{o:AO}{as:List AV}{ds:List D}{u:h_}(hi:σ.hp[i]?=some o) (hl:ZC o=some as) (hd:I5 as=some ds) (hz:small ds.length=true) (ru:RV ω (.loc i) u) (k:K (.d (.tup ds)) σ):Pt G n RV L fs ω (call (.type "tuple") [u]) σ K X:=fun A h hA R=>by
 obtain ⟨ad,m,rest,vs,rfl,rs,S,same,_⟩:=R.lst hi hl ru
 obtain ⟨m3,F0,S3,_,_,Q5⟩:=R.cs
 obtain ⟨nn,ge⟩:=S.YF
 have rd:=ON hd rs
 intro s Q' E hs k' kx
 subst hs
 refine call_tuple_list ⟨_,ge,rfl,nn,rfl⟩ (fun h' hk=>k' _ _ s.toks ?_) (by rw[gM,ZE.length rd];exact Ze hz)
 obtain ⟨B',le,e,R'⟩:=Q5 h'.objs.size (WZ vs) _ ((S3.keeps hk).Xg rfl (Z6 _ _ _))
 exact⟨.d (.tup ds),σ,_,k,.kept le,R',by unfold RV Rep Y8;exact⟨_,vs,rfl,e,rd.mono le⟩⟩
set_option tactic.hygienic true in
theorem EO {a:AV}{c:Bool}{u:h_}(h:isStr a σ.hp=some c) (ru:RV ω a u) (k:K (.d (.bool c)) σ):Pt G n RV L fs ω (call (.builtin "isinstance") [u,.type "str"]) σ K X:=by
 cases a with
 |d x=>cases x with
  |str s=>
   cases (h:some true=some c)
   obtain ⟨t,rfl⟩:=U5 ru
   exact Pt.at (σ:=σ) k (fun A s Q' E hA R q=>IsiPair.str_str (q _ _ OO))
  |_=>exact Xd h
 |loc i=>
  have h:(match σ.hp[i]? with|some o=>(match Vc o with|true=>some false|false=>none)|none=>none)=some c:=h
  cases hi:σ.hp[i]? with
  |none=>rw[hi] at h;exact Xd h
  |some o=>
   rw[hi] at h
   have h:(match Vc o with|true=>some false|false=>none)=some c:=h
   cases hl:Vc o with
   |false=>rw[hl] at h;exact Xd h
   |true=>
    rw[hl] at h
    cases h
    obtain ⟨l,hl'⟩:=Xx hl
    refine Pt.at (σ:=σ) k (fun A s Q' E hA R q=> ?_)
    obtain ⟨ad,m,rest,vs,rfl,rs,S,same,_⟩:=R.lst hi hl' ru
    obtain ⟨nn,ge⟩:=S.YF
    exact IsiPair.list_str ge rfl (q _ _ OO)
 |_=>exact Xd h
theorem IL {ω:Wd}{as:List AV}{bs:List Bool}(h:IM as=some bs):∀{vs:List h_},Xn ω as vs->vs=bs.map .bool:=by
 have m:=UN h
 clear h
 induction m with
 |nil=>exact fun r=>r
 |cons e _ ih=>exact fun⟨v,vs,e',a,r⟩=>by rw[I_ e] at a;rw[e',I7 a,ih r];rfl
theorem M6 {ω:Wd}{as:List AV}{bs:List Str}(h:strsOf as=some bs):∀{vs:List h_},Xn ω as vs->StrsAre vs bs:=by
 have m:=UN h
 clear h
 induction m with
 |nil=>exact fun{vs} r=>by obtain rfl:vs= []:=r;exact .nil
 |cons e _ ih=>exact fun⟨v,vs,e',a,r⟩=>by rw[PU e] at a;obtain ⟨t,rfl⟩:=U5 a;rw[e'];exact .cons _ t (ih r)
theorem IK {i:Nat}{o:AO}{u v:h_}{a:AV}(hi:σ.hp[i]?=some o) (hl:Vc o=true) (hz:small (Za o)=true) (ru:RV ω (.loc i) u) (rv:RV ω a v) (k:K (.d .none) {σ with hp:=σ.hp.set i (KU o a)}):Pt G n RV L fs ω (call (.builtin "list.append") [u,v]) σ K X:=fun A h hA R=>by
 obtain ⟨l,hl'⟩:=Xx hl
 obtain ⟨ad,m,rest,vs,rfl,rs,S,same,back⟩:=R.lst hi hl' ru
 exact Js S (fun h' S'=>⟨.d .none,_,ω,k,.rfl,back _ _ _ h' (OQ hl') (ZT.append (ZT.cons rv .nil) rs) S',xZ⟩) (by rw[ZT.length rs,<-YZ hl'];exact Ze hz)
theorem xQ {i:Nat}{o o':AO}{a:AV}{u:h_}(hi:σ.hp[i]?=some o) (hp:PM o=some (a,o')) (hz:small (Za o)=true) (ru:RV ω (.loc i) u) (k:K a {σ with hp:=σ.hp.set i o'}):Pt G n RV L fs ω (call (.builtin "list.pop") [u]) σ K X:=fun A h hA R=>by
 obtain ⟨l,e1,e2,hne,e4⟩:=M9 hp
 obtain ⟨ad,m,rest,vs,rfl,rs,S,same,back⟩:=R.lst hi e1 ru
 have hlen:vs.length=l.length:=ZT.length rs
 obtain ⟨v,ev,rv⟩:=ZT.get rs e4
 obtain ⟨nn,ge⟩:=S.YF
 intro s Q' E hs k' kx
 subst hs
 have hT:s.TypeIs (.ref ad) "list" :=⟨_,ge,rfl⟩
 refine call_meets F.slot_list_pop hT F.entry_list_pop (F.args_list_pop_1 _) (list_pop_last ad vs.toArray nn v (by rw[gM,hlen,cZ];exact ev) (by rw[gM,hlen,<-YZ e1];exact Ze hz)) ⟨ge,?_⟩
 exact k' _ _ s.toks ⟨a,_,ω,k,.rfl,back o' _ _ _ e2 (ZT.dropLast rs) (S.mapSeq (R9 vs)),rv⟩
theorem IJ {i j:Nat}{o p q:AO}{u v:h_}(hij:gZ i j=false) (hi:σ.hp[i]?=some o) (hj:σ.hp[j]?=some p) (hq:IX o p=some q) (hz:small (Za o+Za p)=true) (ru:RV ω (.loc i) u) (rv:RV ω (.loc j) v) (k:K (.d .none) {σ with hp:=σ.hp.set i q}):
  Pt G n RV L fs ω (call (.builtin "list.extend") [u,v]) σ K X:=fun A h hA R=>by
 obtain ⟨la,lb,ea,eb,eq⟩:=L6 hq
 obtain ⟨ad,m,rest,vs,rfl,rs,S,same,back⟩:=R.lst hi ea ru
 obtain ⟨bd,m2,QD,us,rfl,KO,S2,_,_⟩:=R.lst hj eb rv
 obtain ⟨n1,g1⟩:=S.YF
 obtain ⟨n2,g2⟩:=S2.YF
 have z:=gp hz
 have l1:vs.length=Za o:=by rw[ZT.length rs,YZ ea]
 have l2:us.length=Za p:=by rw[ZT.length KO,YZ eb]
 have hsl:sizeLine=16777216:=by decide
 intro s Q' E hs k' kx
 subst hs
 have hT:s.TypeIs (.ref ad) "list" :=⟨_,g1,rfl⟩
 refine call_meets F.slot_list_extend hT F.entry_list_extend (F.args_list_extend_2 _ _) (AutoSeq1.list_extend_list_list_0 ad vs.toArray n1 bd us.toArray n2 ?_ (by rw[gM];omega) (by rw[gM,gM];omega)) ⟨g1,g2,?_⟩
 ·rw[gM,gM]
  have:bc (vs.length+us.length)=false:=by unfold bc;rw[decide_eq_false];omega
  rw[this];simp
 ·exact k' _ _ s.toks ⟨.d .none,_,ω,k,.rfl,back q _ (vs++us) _ eq (ZT.append KO rs) (S.mapSeq (by simp)),xZ⟩
theorem II {i:Nat}{xs:List Int}{kx x:Int}{u v w:h_}(hi:σ.hp[i]?=some (.Z_ xs)) (h0:0<=kx) (h1:kx<=xs.length) (hz:small xs.length=true) (ru:RV ω (.loc i) u) (rv:RV ω (.d (.int kx)) v) (rw':RV ω (.d (.int x)) w) (k:K (.d .none) {σ with hp:=σ.hp.set i (.Z_ (insI xs kx x))}):
  Pt G n RV L fs ω (call (.builtin "list.insert") [u,v,w]) σ K X:=fun A h hA R=>by
 obtain ⟨ad,m,rest,vs,rfl,rs,S,same,back⟩:=R.lst hi rfl ru
 obtain ⟨t,rfl⟩:=Uo rv
 obtain ⟨t',rfl⟩:=Uo rw'
 obtain ⟨n1,g1⟩:=S.YF
 have hlen:vs.length=xs.length:=by have:=ZT.length rs;rw[this,gn]
 have z:=gp hz
 intro s Q' E hs k' nH
 subst hs
 have hT:s.TypeIs (.ref ad) "list" :=⟨_,g1,rfl⟩
 refine call_meets F.slot_list_insert hT F.entry_list_insert (F.args_list_insert_3 _ _ _) (AutoSeq1.list_insert_list_int_val_1 ad vs.toArray n1 kx t (.int x t') ?_ (by rw[gM,hlen];exact Ze hz)) ⟨g1,?_⟩
 ·have:bT kx=true:=by
   unfold bT
   simp only[bD,decide_eq_true_eq]
   constructor<;>omega
  rw[this];decide
 ·refine k' _ _ s.toks ⟨.d .none,_,ω,k,.rfl,back (.Z_ (insI xs kx x)) _ (vs.take kx.toNat++ .int x t'::vs.drop kx.toNat) _ rfl ?_ (S.mapSeq ?_),xZ⟩
  ·unfold insI
   rw[c6,gb,List.map_take,List.map_drop]
   exact ZT.append (ZT.cons NB (ZT.drop rs)) (ZT.take rs)
  ·have hk:¬kx<0:=by omega
   show (have k:=if kx<0 then (kx+(vs.toArray.size:Int)).toNat else min kx.toNat vs.toArray.size;(vs.toArray.extract 0 k).push (.int x t')++vs.toArray.extract k)=_
   simp only[hk,if_false,gM]
   have:min kx.toNat vs.length=kx.toNat:=by omega
   rw[this]
   apply dU.mp
   simp[cC]
theorem R8:∀{xs ys:List Int}{x:Int},Vu xs x=some ys->∃j,∃h:j<xs.length,xs[j]=x/\(∀m (hm:m<xs.length),m<j->xs[m]≠x)/\ys=xs.eraseIdx j
 | [],_,_,h=>by cases h
 |y::r,ys,x,h=>by
  unfold Vu at h
  cases e:decide (y=x) with
  |true=>
   rw[e] at h;cases h
   exact⟨0,by simp,of_decide_eq_true e,fun m hm hlt=>absurd hlt (Nat.not_lt_zero _),rfl⟩
  |false=>
   rw[e] at h
   cases q:Vu r x with
   |none=>rw[q] at h;cases h
   |some r'=>
    rw[q] at h;cases h
    obtain ⟨j,hj,e1,e2,e3⟩:=R8 q
    refine⟨j+1,by simp;exact hj,by simpa using e1,fun m hm hlt=> ?_,by rw[e3];rfl⟩
    cases m with
    |zero=>exact of_decide_eq_false e
    |succ m=>simpa using e2 m (by simpa using hm) (by omega)
theorem WQ {ω:Wd}{xs:List Int}{vs:List h_}(r:Xn ω (xs.map fun i=> .d (.int i)) vs) {j:Nat}(hj:j<vs.length):∃h:j<xs.length,∃t,vs[j]= .int xs[j] t:=by
 have hlen:vs.length=xs.length:=by have:=ZT.length r;rw[this,gn]
 have hj':j<xs.length:=hlen▸hj
 obtain ⟨v,e,rv⟩:=ZT.get r (i:=j) (x:= .d (.int xs[j])) (by rw[d8,f9 hj'];rfl)
 obtain ⟨t,rfl⟩:=Uo rv
 rw[f9 hj] at e
 exact⟨hj',t,gj e⟩
theorem ZT.eraseIdx {ω:Wd}:∀{j:Nat}{l:List AV}{vs:List h_},Xn ω l vs->Xn ω (l.eraseIdx j) (vs.eraseIdx j)
 |_,[],_,h=>by rw[show _=_ from h];exact rfl
 |0,x::l,_,⟨v,r,e,a,b⟩=>by subst e;exact b
 |j+1,x::l,_,⟨v,r,e,a,b⟩=>by subst e;exact⟨v,_,rfl,a,ZT.eraseIdx b⟩
theorem UL {α β:Type}(f:α->β):∀(l:List α) (j:Nat),(l.eraseIdx j).map f=(l.map f).eraseIdx j
 | [],_=>by simp
 |_::_,0=>rfl
 |x::l,j+1=>by show f x::(l.eraseIdx j).map f=f x::(l.map f).eraseIdx j;rw[UL]
theorem IG {i:Nat}{xs ys:List Int}{x:Int}{u v:h_}(hi:σ.hp[i]?=some (.Z_ xs)) (hr:Vu xs x=some ys) (hz:small xs.length=true) (ru:RV ω (.loc i) u) (rv:RV ω (.d (.int x)) v) (k:K (.d .none) {σ with hp:=σ.hp.set i (.Z_ ys)}):
  Pt G n RV L fs ω (call (.builtin "list.remove") [u,v]) σ K X:=fun A h hA R=>by
 obtain ⟨ad,m,rest,vs,rfl,rs,S,same,back⟩:=R.lst hi rfl ru
 obtain ⟨t,rfl⟩:=Uo rv
 obtain ⟨n1,g1⟩:=S.YF
 have hlen:vs.length=xs.length:=by have:=ZT.length rs;rw[this,gn]
 obtain ⟨j,hj,e1,e2,e3⟩:=R8 hr
 intro s Q' E hs k' nH
 subst hs
 have hT:s.TypeIs (.ref ad) "list" :=⟨_,g1,rfl⟩
 refine call_meets F.slot_list_remove hT F.entry_list_remove (F.args_list_remove_2 _ _) (MeetsSeq.list_remove ad vs.toArray n1 (.int x t) (fun y=>match y with| .int a _=>a==x|_=>false) (fun y hy=> ?_) j (by rw[gM,hlen];exact hj) ?_ (fun m hm hlt=> ?_) (by rw[gM,hlen];exact Ze hz)) ⟨g1,?_⟩
 ·obtain ⟨q,hq,rfl⟩:=List.mem_iff_getElem.mp (by simpa using hy:y∈vs)
  obtain ⟨_,t',e⟩:=WQ rs hq
  rw[e]
  exact EqGives.int _ _ _ _
 ·obtain ⟨_,t',e⟩:=WQ rs (j:=j) (hlen▸hj)
  rw[List.getElem_toArray,e];simpa using e1
 ·have hm':m<vs.length:=by simpa using hm
  obtain ⟨hm2,t',e⟩:=WQ rs hm'
  rw[List.getElem_toArray,e]
  have:=e2 m hm2 hlt
  simpa using this
 ·refine k' _ _ s.toks ⟨.d .none,_,ω,k,.rfl,back (.Z_ ys) _ (vs.eraseIdx j) _ rfl ?_ (S.mapSeq ?_),xZ⟩
  ·rw[e3,UL];exact ZT.eraseIdx rs
  ·show vs.toArray.eraseIdxIfInBounds j=_
   rw[Array.eraseIdxIfInBounds,dif_pos (by rw[gM,hlen];exact hj)]
   apply dU.mp;simp
theorem PL {v:Sem h_}{a b c:Int}(k:K (.K4 a b c) σ) (x:∀{{A:gY}} {{m:Str->Option h_}} {{cs:List (Part->Prop)}} {{h:Heap}} {{Q:h_->Heap->Prop}} {{X':h_->Heap->Prop}},SS G.hS ω.B L m cs h->(∀r h',SS G.hS ω.B L m (Qg r a b c::cs) h'->Q (.ref r) h')->W G.prog G.w A v Q X' h):Pt G n RV L fs ω v σ K X:=fun A h hA R=>by
 obtain ⟨m,cs,S,_,_,Q5⟩:=R.cs
 refine x S fun r h' S'=> ?_
 obtain ⟨t,S'⟩:=SS.ex (p:=fun t V=>∃u w,V r=some (Sp a b c t u w)) S'
 obtain ⟨u,S'⟩:=SS.ex (p:=fun u V=>∃w,V r=some (Sp a b c t u w)) S'
 obtain ⟨w,S'⟩:=SS.ex (p:=fun w V=>V r=some (Sp a b c t u w)) S'
 obtain ⟨B',le,e,R'⟩:=Q5 r (Sp a b c t u w) h' S'
 exact⟨.K4 a b c,σ,_,k,.kept le,R',r,t,u,w,rfl,e⟩
theorem xP {i:Nat}{o:AO}{as:List AV}{bs:List Bool}{u:h_}(hi:σ.hp[i]?=some o) (hl:ZC o=some as) (hb:IM as=some bs) (ru:RV ω (.loc i) u) (k:K (.d (.bool (bs.all id))) σ):Pt G n RV L fs ω (call (.builtin "all") [u]) σ K X:=fun A h hA R=>by
 obtain ⟨ad,m,rest,vs,rfl,rs,S,same,_⟩:=R.lst hi hl ru
 have ev:=IL hb rs
 obtain ⟨m3,F0,S3,_,xO,_⟩:=R.cs
 obtain ⟨nn,ge⟩:=S.YF
 intro s Q' E hs k' kx
 subst hs
 have hl:s.heap.IsList ad vs.toArray:=⟨_,ge,rfl,nn,rfl⟩
 have hne:ad≠s.heap.objs.size:=f_ (gJ ge)
 refine call_all_walk (wpAny_pyIter_list hl ⟨s.heap.objs.size,[s.heap.objs.size,ad],[s.heap.objs.size],vs.toArray.size,(fun i v=>vs.toArray[i]?=some v),(fun i h=>h.IsListIter s.heap.objs.size ad i/\h.IsList ad vs.toArray),(fun i=>bs.getD i true),rfl,
  Walks.list (prog:=G.prog) (w:=G.w) (A:=A.in1) hA.hd s.heap.objs.size ad hne vs.toArray,⟨⟨_,fy _ rfl,rfl,rfl⟩,hl.push _⟩,?_,fun h' tk hk=> ?_⟩)
 ·intro i v s' ki iH hp hq
  rw[cZ,ev,d8] at hp
  cases e:bs[i]? with
  |none=>rw[e] at hp;cases hp
  |some b=>
   rw[e] at hp;cases hp
   have e2:bs.getD i true=b:=by rw[fG,e];rfl
   exact wpAny_truthy_bool (by rw[<-e2];exact hq)
 ·refine k' _ h' tk ⟨.d (.bool (bs.all id)),σ,ω,k,.rfl,xO h' (S3.keeps fun a o e=>hk a o (fun hm=> ?_) (gD _ e)),?_⟩
  ·have:=fK.mp hm
   subst this
   exact absurd (gJ e) (eT _)
  ·have e2:(eY vs.toArray.size).all (fun i=>bs.getD i true)=bs.all id:=by
    rw[gM,ev,gn]
    clear hb ev k
    have:∀(l:List Bool),(eY l.length).all (fun i=>l.getD i true)=l.all id:=by
     intro l
     induction l with
     |nil=>rfl
     |cons b l ih=>
      rw[fR,List.range_succ_eq_map,fP,List.all_map,fP,<-ih]
      rfl
    exact this bs
   rw[e2];exact OO
theorem IF {rest:List (Part->Prop)}{d:Addr}{kvs:List (Int×h_)}{m:Str->Option h_}{h:Heap}(S:SS G.hS ω.B L m (BC d kvs::rest) h):(d==sysModules)=false:=by
 obtain ⟨V,S,V1,V2,dd,l1,l2,⟨o,e,p⟩,r⟩:=S
 obtain ⟨os,es⟩:=G.sys
 have hB:=S.st _ _ es
 have:d≠sysModules:=fun q=>by
  have:=S.vb _ _ (l1 _ _ e)
  rw[q,hB] at this;cases this
 simpa using this
theorem xN {i:Nat}{d:List (Int×AV)}{kx:Int}{u v:h_}(hi:σ.hp[i]?=some (.dict d)) (ru:RV ω (.loc i) u) (rv:RV ω (.d (.int kx)) v) (k:K (match Jk d kx with|some a=>a|none=> .d .none) σ):Pt G n RV L fs ω (call (.builtin "dict.get") [u,v]) σ K X:=fun A h' hA R=>by
 obtain ⟨ad,m,rest,rfl,S,_⟩:=R.at hi ru
 obtain ⟨kvs,S⟩:=S.ex
 obtain ⟨FF,S⟩:=S.fact
 have hm:=S.dictOf (p:=G.prog) (w:=G.w)
 have hs':(ad==sysModules)=false:=IF S
 obtain ⟨t,rfl⟩:=Uo rv
 have rr:RV ω (match Jk d kx with|some a=>a|none=> .d .none) ((valueAt kvs kx).getD .none):=by
  cases q:Jk d kx with
  |none=>rw[FF.none q];exact xZ
  |some a=>obtain ⟨v,e1,r⟩:=FF.at q;rw[e1];exact r
 intro s Q' E hs k' nH
 subst hs
 exact call_meetsIn F.slot_dict_get hm.typeIs F.entry_dict_get (F.args_dict_get_2 _ _) (meets_dict_get (fh G.prog G.w) ad (k:=kx) (isInt_self kx t) hs') ⟨_,hm.mapOf,k' _ s.heap _ (R.here rr k)⟩
theorem EN {x:Str}{u:h_}(hz:small (gm x).length=true) (ru:RV ω (.d (.str x)) u) (k:K (.d (.str (gm x))) σ):Pt G n RV L fs ω (call (.builtin "str.lower") [u]) σ K X:=fun A h' hA R=>by
 obtain ⟨t,rfl⟩:=U5 ru
 refine Pt.at (σ:=σ) k (fun A s Q' E hA R q=> ?_) hA R
 have hfit:dY.Str.tooLong (gm x).length=false:=by
  unfold dY.Str.tooLong;rw[decide_eq_false];have:=Ze hz;omega
 exact call_gives F.slot_str_lower (typeIs_str s x t) F.entry_str_lower (F.args_str_lower_1 _) (gives_str_lower x t hfit) ⟨Ze hz,q _ _ Bk⟩
theorem LZ:∀(l:List Str),(l.map (·.length)).sum=M8 l
 | []=>rfl
 |x::r=>by rw[gb,List.sum_cons,LZ];rfl
theorem A9 {i:Nat}{o:AO}{as:List AV}{ss:List Str}{x:Str}{u v:h_}(hi:σ.hp[i]?=some o) (hl:ZC o=some as) (hss:strsOf as=some ss) (hz:small (M8 ss+ss.length*x.length)=true) (ru:RV ω (.d (.str x)) u) (rv:RV ω (.loc i) v) (k:K (.d (.str (Txt.join x ss))) σ):
  Pt G n RV L fs ω (call (.builtin "str.join") [u,v]) σ K X:=fun A h' hA R=>by
 obtain ⟨t,rfl⟩:=U5 ru
 refine Pt.at (σ:=σ) k (fun A s Q' E hA R q=> ?_) hA R
 obtain ⟨ad,m,rest,vs,rfl,rs,S,same,_⟩:=R.lst hi hl rv
 obtain ⟨nn,ge⟩:=S.YF
 refine join_list ⟨_,ge,rfl,nn,rfl⟩ (M6 hss rs) ?_ fun t' kk=>q _ _ Bk
 rw[LZ]
 have:=Ze hz
 have e:sizeLine=16777216:=by decide
 omega
theorem KG {prog:gP}{w:g8}{A:gY}{X:h_->Heap->Prop}{h:Heap}{hS:Heap}{B:Part}{L:Addr}{m:Str->Option h_}{cs:List (Part->Prop)}{a b:Int}{t u v:Tok}{Q:h_->Heap->Prop}(S:SS hS B L m cs h) (hb:a.natAbs<=1000000000/\b.natAbs<=1000000000) (g:∀r h',SS hS B L m (Qg r a b (-1)::cs) h'->Q (.ref r) h'):W prog w A (call (.type "range") [.int a t,.int b u,.int (-1) v]) Q X h:=fun s Q' E hs k kx=>by
 subst hs
 exact call_range_3 (by decide) (k _ _ _ (g _ _ (S.Xg rfl ⟨_,_,_,Z6 _ _ _⟩))) (.inl (PyProof.noPylong_small (by omega)))
theorem M5 {i:Nat}{o:AO}{u:h_}{l:List AV}(hi:σ.hp[i]?=some o) (hl:ZC o=some l) (ru:RV ω (.loc i) u) (k:K (.loc σ.hp.length) {σ with hp:=σ.hp++ [.Vm i (Za o)]}):Pt G n RV L fs ω (call (.type "reversed") [u]) σ K X:=fun A h hA R=>by
 obtain ⟨ad,m,rest,vs,rfl,rs,S,_,_⟩:=R.lst hi hl ru
 obtain ⟨m3,F0,S3,new,_,_⟩:=R.cs
 obtain ⟨nn,ge⟩:=S.YF
 obtain ⟨_,e1,q⟩:=id ru
 cases q
 intro s Q' E hs k' kx
 subst hs
 have hlen:vs.length=Za o:=by rw[ZT.length rs,YZ hl]
 refine call_reversed_list (items:=vs.toArray) ⟨_,ge,rfl,nn,rfl⟩ (k' _ _ s.toks ?_)
 obtain ⟨R',r'⟩:=new s.heap.objs.size (.Vm i (Za o)) _ (S3.Xg (o:=revObj ad ((vs.toArray.size:Int)- 1)) rfl ⟨_,ad,Z6 _ _ _,Y7 (fC _ _) e1,f_ (gJ ge),fun h' e=>⟨_,e,rfl,by rw[gM,hlen];rfl⟩⟩)
 exact⟨_,_,_,k,.new,R',r'⟩
theorem M4 {prog:gP}{w:g8}{A:gY}{E:h_->g7->Prop}{s:g7}{d:Addr}{Q:h_->g7->Prop}(hh:A.handled=none) (lo:(d==sysModules)=false) (hd:s.heap.DictOf (fh prog w) d [])
  (h:∀D h' tk n,s.heap.get? D=none->(∀b o,s.heap.get? b=some o->h'.get? b=some o)->h'.get? D=some (fV ([]:List h_).toArray n)->Q (.ref D) {s with heap:=h',toks:=tk}):gW (gO prog w) A (call (.builtin "sorted") [.ref d]) Q E s:=by
 obtain ⟨ep,hat⟩:=hd.dictAt
 refine call_function_entry kind_sorted plain_sorted entry_sorted (args_sorted1 _) ?_
 unfold dY.«sorted»
 refine g_ (m:=checkCount "sorted" 1 1 _) (gU ?_)
 refine g_ (kdu_collect (A:=A.in1) (kdl_dict (knd:=fh prog w) (kvs:= []) (ep:=ep) lo) hh hat (Nat.zero_le _) fun h' tk acc hk hacc=> ?_)
 have hl:acc.toList= []:=by
  have:acc.size=0:=hacc.1
  exact bg (by rw[dJ];exact this)
 rw[hl]
 refine g_ (wpAny_newList ?_ (Nat.zero_le _))
 have hD:(h'.push {cls:= .type "list",data:= .seq ([]:List h_).toArray}).get? h'.objs.size=some (seqObj "list" ([]:List h_).toArray 0):=fy _ rfl
 have fresh:s.heap.get? h'.objs.size=none:=by
  cases e:s.heap.get? h'.objs.size with
  |none=>rfl
  |some o=>exact absurd (gJ (hk _ _ e)) (eT _)
 refine g_ (fu (cG PyProof.Rows.slot_list_sort ⟨_,hD,rfl⟩ PyProof.Rows.entry_list_sort (list_sort_tree (n:=0) (vs:= []) (ns:= []) hD .nil (by decide) fun out ns' hI hp hP=>⟨.none,rfl,?_⟩) (PyProof.Rows.args_list_sort _)))
 obtain ⟨e,he⟩:=sortedHeap_at (out:=out) hD
 have ho:out.toList= []:=by
  have h1:=hI.length
  have h2:=hp.length_eq
  exact bg (by rw[h1] at*;simpa using h2)
 refine gU ⟨_,rfl,h _ _ _ e fresh (fun b o q=> ?_) ?_⟩
 ·have q':=gD {cls:= .type "list",data:= .seq ([]:List h_).toArray} (hk _ _ q)
  exact(sortedHeap_old (fun x=>by rw[x,fresh] at q;cases q) (gJ q')).trans q'
 ·have:out=([]:List h_).toArray:=by rw[<-ho,Array.toArray_toList]
  rw[this] at he ⊢;exact he
theorem KE {i:Nat}{u:h_}(hi:σ.hp[i]?=some (.dict [])) (ru:RV ω (.loc i) u) (k:K (.loc σ.hp.length) {σ with hp:=σ.hp++ [.Z_ []]}):Pt G n RV L fs ω (call (.builtin "sorted") [u]) σ K X:=fun A h hA R=>by
 obtain ⟨ad,m,rest,rfl,S,_⟩:=R.at hi ru
 obtain ⟨m3,F0,S3,new,_,_⟩:=R.cs
 obtain ⟨kvs,S⟩:=SS.ex S
 obtain ⟨kr,S⟩:=S.fact
 obtain rfl:kvs= []:=kr
 intro s Q' E hs k' kx
 subst hs
 have hd:s.heap.DictOf (fh G.prog G.w) ad []:=by
  obtain ⟨V,S,V1,V2,d,l1,l2,⟨o,e,y⟩,r⟩:=S
  exact y _ _ _ (S.YW _ _ (l1 _ _ e))
 refine M4 hA.hd (IF S) hd fun D h' tk n fr hk hD=>k' _ _ tk ?_
 obtain ⟨R',r'⟩:=new D (.Z_ []) h' (S3.grown (P:=Y3 (ω.ρ++ [D]) ω.B D (.Z_ [])) hk fr hD ⟨[],by unfold List.map ZE;rfl,n,Z6 _ _ _⟩)
 exact⟨_,_,_,k,.new,R',r'⟩
theorem OJ {i:Nat}{o:AO}{u:h_}{l:List AV}(hi:σ.hp[i]?=some o) (hl:ZC o=some l) (ru:RV ω (.loc i) u) (k:K (.loc σ.hp.length) {σ with hp:=σ.hp++ [.en i 0]}):Pt G n RV L fs ω (call (.type "enumerate") [u]) σ K X:=fun A h hA R=>by
 obtain ⟨ad,m,rest,vs,rfl,rs,S,_,_⟩:=R.lst hi hl ru
 obtain ⟨m3,F0,S3,new,_,_⟩:=R.cs
 obtain ⟨nn,ge⟩:=S.YF
 obtain ⟨_,e1,q⟩:=id ru
 cases q
 intro s Q' E hs k' kx
 subst hs
 refine call_enumerate_1 ge fun h' he hit hsz hk=>k' _ h' s.toks ?_
 obtain ⟨oi,ei,ci⟩:=id hit
 have lt:=gJ ge
 have ne:s.heap.objs.size+1≠s.heap.objs.size:=Nat.succ_ne_self _
 have fr:∀b,s.heap.objs.size<=b->s.heap.get? b=none:=fun b hb=>by
  cases e:s.heap.get? b with
  |none=>rfl
  |some o=>exact absurd (gJ e) (Nat.not_lt.mpr hb)
 obtain ⟨oe,eO,EM⟩:∃oe:Obj,h'.get? (s.heap.objs.size+1)=some oe/\∀h'':Heap,h''.get? (s.heap.objs.size+1)=some oe->∃old,IsEnum h'' (s.heap.objs.size+1) s.heap.objs.size 0 old:=⟨_,he,fun h'' e=>⟨_,e⟩⟩
 obtain ⟨R',r'⟩:=new (s.heap.objs.size+1) (.en i 0) h' (S3.Nd hk (upd (upd (fun _=>none) s.heap.objs.size (some oi)) (s.heap.objs.size+1) (some oe)) (fun b hb=>by
   by_cases q:b=s.heap.objs.size+1
   ·subst q;exact fr _ (Nat.le_succ _)
   ·rw[Z2 q] at hb
    by_cases q':b=s.heap.objs.size
    ·subst q';exact fr _ (gi _)
    ·rw[Z2 q'] at hb;exact absurd rfl hb) (fun b o e=>by
   by_cases q:b=s.heap.objs.size+1
   ·subst q;rw[Z6] at e;cases e;exact eO
   ·rw[Z2 q] at e
    by_cases q':b=s.heap.objs.size
    ·subst q';rw[Z6] at e;cases e;exact ei
    ·rw[Z2 q'] at e;cases e)
  ⟨s.heap.objs.size,ad,Y7 (fC _ _) e1,ne,f_ (Nat.lt_succ_of_lt lt),f_ lt,by rw[Z6];exact fun z=>(nomatch z),by rw[Z2 ne.symm,Z6];exact fun z=>(nomatch z),fun b hb=>by
    by_cases q:b=s.heap.objs.size+1
    ·exact .inl q
    ·rw[Z2 q] at hb
     by_cases q':b=s.heap.objs.size
     ·exact .inr q'
     ·rw[Z2 q'] at hb;exact absurd rfl hb,fun h'' hh=>⟨EM h'' (hh _ _ (Z6 _ _ _)),⟨oi,hh _ _ (by rw[Z2 ne.symm,Z6]),ci⟩⟩⟩)
 exact⟨_,_,_,k,.new,R',r'⟩
theorem EL {s:Str}{c:Nat}(h:Bd s=some c):s=⟨#[c]⟩:=by
 unfold Bd at h
 cases s with
 |mk x=>
  cases e:x.toList with
  |nil=>rw[e] at h;cases h
  |cons d r=>cases r with
   |nil=>rw[e] at h;cases h;exact congrArg _ (dU.mp e)
   |cons=>rw[e] at h;cases h
theorem XX {a:AV}{H:List AO}{u:h_}{k:Nat->AO->Prop}{C:Prop}(h:M7 a H k) (r:RV ω a u) (f:∀i o,H[i]?=some o->k i o->RV ω (.loc i) u->C):C:=by
 refine U4 h r fun i h r=> ?_
 obtain ⟨o,e,h⟩:=Z3 h
 exact f i o e h r
theorem EK {l:Nat}{as:List AV}{vs:List h_}(h:xS l as σ K) (rs:Xn ω as vs):Pt G n RV L fs ω (call (.type "range") vs) σ K X:=by
 cases as with
 |nil=>exact gV h
 |cons a as=>
  obtain ⟨u,_,rfl,ru,rs⟩:=rs
  cases as with
  |nil=>
   obtain rfl:=rs
   apply YR h ru
   intro i t h
   exact PL h (fun _ _ _ _ _ _ S g=>Jo S g)
  |cons b as=>
   obtain ⟨v,_,rfl,rv,rs⟩:=rs
   cases as with
   |nil=>
    obtain rfl:=rs
    apply YR h ru
    intro i t h
    apply YR h rv
    intro j t' h
    exact PL h (fun _ _ _ _ _ _ S g=>Jm S g)
   |cons c as=>
    obtain ⟨w,_,rfl,rw,rs⟩:=rs
    cases as with
    |nil=>
     obtain rfl:=rs
     apply YR h ru
     intro i t h
     apply YR h rv
     intro j t' h
     apply YR h rw
     intro k t'' h
     obtain ⟨hk,h⟩:=ZS h
     obtain rfl:=of_decide_eq_true hk
     apply XR h
     intro os e h
     obtain ⟨e1,e2⟩:=U6 e
     exact PL h (fun _ _ _ _ _ _ S g=>KG S ⟨Sb e1,Sb e2⟩ g)
    |cons=>exact gV h
theorem Um {l:Nat}{b:BI}{as:List AV}(h:xR l b as σ K):Ve G n (.bi b) as σ K X:=fun L fs ω fv vs rf rs=>by
 obtain rfl:fv=C6 b:=rf
 cases b with
 |len=>
  apply Xw h rs
  intro a u h r
  cases a with
  |loc i=>
   obtain ⟨o,hi,h⟩:=Z3 h
   obtain ⟨hl,h⟩:=ZS h
   apply XR h
   intro os e h
   exact Bc (σ:={σ with os:=os}) hi hl e r h
  |d x=>cases x with
   |str s=>exact XR h fun os e h=>Bb e r h
   |tup s=>exact XR h fun os e h=>Ba e r h
   |_=>exact gV h
  |_=>exact gV h
 |abs=>
  apply Xw h rs
  intro a u h r
  apply YR h r
  intro i t h
  refine @fun A h' hA R=>yy fun t=>R.here ?_ h
  rw[show (if i<0 then -i else i)=(match decide (i<0) with|true=> -i|false=>i) by by_cases q:i<0<;>simp[q]]
  exact NB
 |min=>
  apply VQ h rs
  intro a b u v h r r'
  apply YR h r
  intro i t h
  apply YR h r'
  intro j t' h
  intro A h' hA R
  obtain ⟨m,cs,S,_,same,_⟩:=R.cs
  exact yp S hA.hd fun t h' S'=>(same h' S').here NB h
 |max=>
  apply VQ h rs
  intro a b u v h r r'
  apply YR h r
  intro i t h
  apply YR h r'
  intro j t' h
  intro A h' hA R
  obtain ⟨m,cs,S,_,same,_⟩:=R.cs
  exact yq S hA.hd fun t h' S'=>(same h' S').here NB h
 |ord=>
  apply Xw h rs
  intro a u h r
  apply Na h r
  intro s t h
  obtain ⟨c,e,h⟩:=Z3 h
  rw[EL e]
  exact @fun A h' hA R=>yz fun t=>R.here NB h
 |chr=>
  apply Xw h rs
  intro a u h r
  apply YR h r
  intro i t h
  apply XR h
  intro os e h
  obtain ⟨e1,e2⟩:=U6 e
  exact @fun A h' hA R=>yC (of_decide_eq_true e1) (of_decide_eq_true e2) fun t=>Rel.here (σ:={σ with os:=os}) R Bk h
 |range=>exact EK h rs
 |list=>
  apply Xw h rs
  intro a u h r
  apply XX h r
  intro i o hi h r
  obtain ⟨hl,h⟩:=ZS h
  apply XR h
  intro os e h
  exact A_ (σ:={σ with os:=os}) hi hl e r h
 |tuple=>
  apply Xw h rs
  intro a u h r
  apply XX h r
  intro i o hi h r
  obtain ⟨as,hl,h⟩:=Z3 h
  obtain ⟨ds,hd,h⟩:=Z3 h
  apply XR h
  intro os e h
  exact EP (σ:={σ with os:=os}) hi hl hd e r h
 |isinstance=>
  apply VQ h rs
  intro a b u v h r r'
  cases b with
  |bi b=>cases b with
   |str=>
    obtain ⟨c,hc,h⟩:=Z3 h
    obtain rfl:v=C6 .str:=r'
    exact EO hc r h
   |_=>exact gV h
  |_=>exact gV h
 |all=>
  apply Xw h rs
  intro a u h r
  apply XX h r
  intro i o hi h r
  obtain ⟨as,hl,h⟩:=Z3 h
  obtain ⟨bs,hb,h⟩:=Z3 h
  exact xP hi hl hb r h
 |Yi=>
  apply VQ h rs
  intro a b u v h r r'
  apply XX h r
  intro i o hi h r
  obtain ⟨hl,h⟩:=ZS h
  apply XR h
  intro os e h
  exact IK (σ:={σ with os:=os}) hi hl e r r' h
 |Fp=>
  apply Xw h rs
  intro a u h r
  apply XX h r
  intro i o hi h r
  obtain ⟨p,hp,h⟩:=Z3 h
  apply XR h
  intro os e h
  exact xQ (σ:={σ with os:=os}) hi hp e r h
 |lextend=>
  apply VQ h rs
  intro a b u v h r r'
  apply XX h r
  intro i o hi h r
  apply XX h r'
  intro j p hj h r'
  obtain ⟨hij,h⟩:=ZS h
  obtain ⟨q,hq,h⟩:=Z3 h
  apply XR h
  intro os e h
  exact IJ (σ:={σ with os:=os}) (by cases z:gZ i j;rfl;rw[z] at hij;cases hij) hi hj hq e r r' h
 |SY=>
  cases as with
  |nil=>exact gV h
  |cons a as=>cases as with
   |nil=>exact gV h
   |cons b as=>cases as with
    |nil=>exact gV h
    |cons c as=>cases as with
     |cons=>exact gV h
     |nil=>
      obtain ⟨u,_,rfl,ru,v,_,rfl,rv,w,_,rfl,rw',rfl⟩:=rs
      apply XX h ru
      intro i o hi h r
      obtain ⟨k,e1,h⟩:=Z3 h
      obtain ⟨x,e2,h⟩:=Z3 h
      obtain ⟨xs,e3,h⟩:=Z3 h
      rw[VR e1] at rv
      rw[VR e2] at rw'
      rw[SN e3] at hi
      apply XR h
      intro os e h
      obtain ⟨q1,e⟩:=U6 e
      obtain ⟨q2,q3⟩:=U6 e
      exact II (σ:={σ with os:=os}) hi (of_decide_eq_true q1) (of_decide_eq_true q2) q3 r rv rw' h
 |SX=>
  apply VQ h rs
  intro a b u v h r r'
  apply XX h r
  intro i o hi h r
  obtain ⟨x,e1,h⟩:=Z3 h
  obtain ⟨xs,e2,h⟩:=Z3 h
  obtain ⟨ys,e3,h⟩:=Z3 h
  rw[VR e1] at r'
  rw[SN e2] at hi
  apply XR h
  intro os e h
  exact IG (σ:={σ with os:=os}) hi e3 e r r' h
 |K5=>
  apply VQ h rs
  intro a b u v h r r'
  apply XX h r
  intro i o hi h r
  obtain ⟨x,e1,h⟩:=Z3 h
  obtain ⟨d,e2,h⟩:=Z3 h
  rw[VR e1] at r'
  rw[Vv e2] at hi
  exact xN hi r r' h
 |Qa=>
  apply Xw h rs
  intro a u h r
  obtain ⟨s,e1,h⟩:=Z3 h
  rw[PU e1] at r
  apply XR h
  intro os e h
  exact EN (σ:={σ with os:=os}) e r h
 |UQ=>
  apply VQ h rs
  intro a b u v h r r'
  obtain ⟨s,e1,h⟩:=Z3 h
  rw[PU e1] at r
  apply XX h r'
  intro i o hi h r'
  obtain ⟨as,hl,h⟩:=Z3 h
  obtain ⟨ss,hs,h⟩:=Z3 h
  apply XR h
  intro os e h
  exact A9 (σ:={σ with os:=os}) hi hl hs e r r' h
 |reversed=>
  apply Xw h rs
  intro a u h r
  apply XX h r
  intro i o hi h r
  obtain ⟨hl,h⟩:=ZS h
  obtain ⟨l',hl'⟩:=Xx hl
  exact M5 hi hl' r h
 |enumerate=>
  apply Xw h rs
  intro a u h r
  apply XX h r
  intro i o hi h r
  obtain ⟨hl,h⟩:=ZS h
  obtain ⟨l',hl'⟩:=Xx hl
  exact OJ hi hl' r h
 |sorted=>
  apply Xw h rs
  intro a u h r
  apply XX h r
  intro i o hi h r
  obtain ⟨d,e2,h⟩:=Z3 h
  obtain ⟨e3,h⟩:=ZS h
  rw[Vv e2] at hi
  cases d with
  |nil=>exact KE hi r h
  |cons=>cases e3
 |_=>exact gV h
end
section
variable {prog:gP}{w:g8}{A:gY}{E:h_->g7->Prop}{s:g7}
theorem QY {l sl b:Addr}{items items2:Array h_}{n n2:Nat}{vl vu:h_}{lo hi:Option Int}{Q:Unit->g7->Prop}(ho:s.heap.get? l=some (fV items n)) (hb:s.heap.get? b=some (fV items2 n2)) (hne:l≠b)
  (hs:s.heap.IsSliceOf sl vl vu .none) (pl:IsPart vl lo) (pu:IsPart vu hi) (hsz:items.size+items2.size<=200000)
  (h:Q () {s with heap:=s.heap.update l (bR fun xs=>xs.extract 0 (Si items.size lo)++items2++xs.extract (max (Si items.size lo) (L7 items.size hi)) xs.size)}):gW (gO prog w) A (d_ (.ref l) (.ref sl) (.ref b)) Q E s:=by
 have hl:s.heap.IsList l items:=⟨_,ho,rfl,n,rfl⟩
 have hl2:s.heap.IsList b items2:=⟨_,hb,rfl,n2,rfl⟩
 obtain ⟨os,hos,hcs,hds⟩:=id hs
 have nG:s.TypeIs (.ref sl) "slice" :=⟨os,hos,hcs⟩
 have hsl:sizeLine=16777216:=by decide
 unfold d_
 try with_reducible refine fu ?_
 first|refine g_ (gU ?_)|skip
 refine g_ (wpAny_sequenceKey hl.typeIs (by decide) ?_)
 refine g_ (bS (name:=fz "__setitem__") hl.typeIs a_
  (cG a_ hl.typeIs entry_list_setitem ?_ (args_list_setitem _ _ _)))
 show gW _ _ (bk (.ref sl)>>=_) _ _ s
 refine g_ ?_
 unfold bk
 refine g_ (wpAny_specialOf nG slice_no_index ?_)
 simp only[Option.isNone_none,if_true]
 refine gU ?_
 show gW _ _ (typeOf (.ref sl)>>=_) _ _ s
 refine g_ (wpAny_typeOf nG ?_)
 rw[if_neg (by decide)]
 rw[listSliceParts_eq]
 refine g_ (g_ (fQ hos hds (x:= .none) rfl (g_ (wpAny_listPart .none ?_))))
 rw[if_neg (show ¬((rawPart none==rawInt 0)=true) from cB)]
 refine g_ (fQ hos hds (x:=vl) rfl (g_ (wpAny_listPart pl ?_)))
 refine g_ (fQ hos hds (x:=vu) rfl (g_ (wpAny_listPart pu (gU ?_))))
 have kh:dY.List.listSameRef (.ref l) (.ref b)=false:=by show (l==b)=false;simpa using hne
 rw[kh,if_neg cB]
 refine g_ ?_
 unfold dY.List.listAllItems
 refine g_ (wpAny_typeOf hl2.typeIs ?_)
 rw[if_pos (by decide)]
 refine listItems_at hb rfl ?_
 refine g_ (listItems_at ho rfl ?_)
 refine g_ (wpAny_of_eq (sliceIndices_raw lo hi none items.size (by simp)) ?_)
 rw[QF]
 refine g_ (wpAny_rule ?_)
 have xM:bc (items.size+items2.size)=false:=by unfold bc;rw[decide_eq_false];omega
 rw[xM,if_neg cB]
 have em:(max (Si items.size lo:Int) (L7 items.size hi:Int)).toNat=max (Si items.size lo) (L7 items.size hi):=congrArg Int.toNat (JD _ _)
 have e0:(Si items.size lo:Int).toNat=Si items.size lo:=rfl
 refine g_ (listUpdate_at ho rfl ?_ (by omega) ?_)
 ·refine g_ (wpAny_letGo ?_)
  refine gU ?_
  refine⟨.none,rfl,gU ?_⟩
  rw[em,e0]
  exact h
 ·rw[Array.size_append,Array.size_append,Array.size_extract,Array.size_extract,Nat.min_self]
  have a:=bq (Si items.size lo:Int).toNat items.size
  have b:=Nat.sub_le items.size (max (Si items.size lo:Int) (L7 items.size hi:Int)).toNat
  generalize min (Si items.size lo:Int).toNat items.size=x at*
  generalize items.size - (max (Si items.size lo:Int) (L7 items.size hi:Int)).toNat=y at*
  omega
end
theorem KD {p p':gP}{w w':g8}{es:List gh}{kvs:List (Int×h_)}(h:Pairs (fh p w) es kvs):Pairs (fh p' w') es kvs:=by
 induction h with
 |nil=>exact .nil
 |cons a b _ ih=>exact .cons a b ih
theorem R7 {p p':gP}{w w':g8}{h h':Heap}{d:Addr}{kvs:List (Int×h_)}{o:Obj}(x:h.DictOf (fh p w) d kvs) (e:h.get? d=some o) (e':h'.get? d=some o):h'.DictOf (fh p' w') d kvs:=by
 obtain ⟨o',es,ep,eo,a,b,c,q,n⟩:=x
 obtain rfl:o'=o:=by rw[eo] at e;exact gj e
 exact⟨o',es,ep,e',a,b,c,KD q,n⟩
theorem Q_.keys {ρ:List Addr}{B:Part}:∀{l:List (Int×AV)}{kvs:List (Int×h_)},Q_ ρ B l kvs->kvs.map (·.1)=l.map (·.1)
 | [],_,h=>by rw[show _=_ from h];rfl
 |(k,a)::l,_,⟨v,r,e,p,q⟩=>by subst e;rw[gb,gb,Q_.keys q]
theorem R6 {y x:Int}{u v:h_}{r:List (Int×h_)}(h:y=x) (hn:((r.map (·.1))).Nodup/\y∉r.map (·.1)):stored ((y,u)::r) x v=(y,v)::r:=by
 subst h
 unfold stored
 rw[if_pos (by simp)]
 rw[gb,if_pos rfl]
 congr 1
 have:∀kv∈r,(if kv.1=y then (kv.1,v) else kv)=kv:=fun kv hk=>by
  rw[if_neg];intro e;exact hn.2 (e▸bA hk)
 exact(List.map_congr_left this).trans (by simp)
theorem R5 {y x:Int}{u v:h_}{r:List (Int×h_)}(h:y≠x):stored ((y,u)::r) x v=(y,u)::stored r x v:=by
 unfold stored
 by_cases q:r.any (fun kv=>decide (kv.1=x))=true
 ·rw[if_pos q,if_pos (by rw[dh,q];simp),gb,if_neg h]
 ·rw[if_neg q,if_neg (by rw[dh];simp[h];simpa using q),List.cons_append]
theorem Q_.stored {ρ:List Addr}{B:Part}{x:Int}{a:AV}{v:h_}(r:Rep ρ B a v):∀{l:List (Int×AV)}{kvs:List (Int×h_)},Q_ ρ B l kvs->(kvs.map (·.1)).Nodup->Q_ ρ B (K2 l x a) (PySem.stored kvs x v)
 | [],kvs,h,_=>by rw[show kvs= [] from h];exact⟨v,[],rfl,r,rfl⟩
 |(y,b)::l,_,⟨u,q,e,p1,p2⟩,hn=>by
  subst e
  rw[gb,bY] at hn
  unfold K2
  cases h:decide (y=x) with
  |true=>rw[R6 (of_decide_eq_true h) ⟨hn.2,hn.1⟩];exact⟨v,q,rfl,r,p2⟩
  |false=>rw[R5 (of_decide_eq_false h)];exact⟨u,_,rfl,p1,Q_.stored r p2 hn.2⟩
section
variable {prog:gP}{w:g8}{A:gY}{E:h_->g7->Prop}{s:g7}
theorem QX {l:Addr}{items:Array h_}{l1:Nat}{k:Int}{t:Tok}{v:h_}{Q:Unit->g7->Prop}(ho:s.heap.get? l=some (fV items l1))
  (h0:0<=k) (hfit:k<2 ^ 63) (hn:k<items.size)
  (hQ:∀h',(∃n,h'.get? l=some (fV (items.setIfInBounds k.toNat v) n))->dw l s.heap h'->Q () {s with heap:=h'}):
  gW (gO prog w) A (d_ (.ref l) (.int k t) v) Q E s:=by
 have hl:s.heap.IsList l items:=⟨_,ho,rfl,l1,rfl⟩
 unfold d_
 try with_reducible refine fu ?_
 first|refine g_ (gU ?_)|skip
 refine g_ (wpAny_sequenceKey hl.typeIs (by decide) ?_)
 refine g_ (bS (name:=fz "__setitem__") hl.typeIs a_
  (cG a_ hl.typeIs entry_list_setitem ?_ (args_list_setitem _ _ _)))
 show gW _ _ (bk (.int k t)>>=_) _ _ s
 refine g_ (wpAny_listSubscript_int (fitsIndex_of h0 hfit) ?_)
 clear hfit
 obtain ⟨j,rfl⟩:=bu h0
 have hj:j<items.size:=by omega
 have hx':items[j]?=some items[j]:=Array.getElem?_eq_getElem hj
 show gW _ _ ((seqItemAt l j>>=fun r=>pure (r.map (j,·)))>>=_) _ _ s
 refine g_ (g_ (wpAny_seqItemAt ho rfl (gU ?_)))
 rw[hx']
 show gW _ _ (setSeqItemAt l j v>>=_) _ _ s
 have xK:(s.heap.update l (bR (·.setIfInBounds j v))).get? l=some (fV (items.setIfInBounds j v) _):=dm _ ho rfl
 refine g_ (wpAny_setSeqItemAt ho rfl ?_)
 first
  |exact g_ (gU (gU ⟨.none,rfl,gU (hQ _ ⟨_,xK⟩ (aJ ..))⟩))
  |exact gU ⟨.none,rfl,gU (hQ _ ⟨_,xK⟩ (aJ ..))⟩
end
section
variable {G:Gm}{n:Nat}{Φ:Fm}{σ Z4 ZW Zq ZH:St}{X:XK}
def A8:AO->Nat->AV->AO
 | .list l,i,a=> .list (l.set i a)
 | .Z_ l,i,a=>(match a with| .d (.int x)=> .Z_ (l.set i x)|a=> .list ((l.map fun i=> .d (.int i)).set i a))
 |o,_,_=>o
theorem OI {o:AO}{l:List AV}(h:ZC o=some l) {i:Nat}{a:AV}:ZC (A8 o i a)=some (l.set i a):=by
 cases o with
 |list l'=>cases h;rfl
 |Z_ l'=>
  cases h
  cases a with
  |d x=>cases x with
   |int x=>exact congrArg some List.map_set
   |_=>rfl
  |_=>rfl
 |_=>cases h
theorem ZT.set {ω:Wd}{a:AV}{v:h_}(r:RV ω a v):∀{i:Nat}{l:List AV}{vs:List h_},Xn ω l vs->Xn ω (l.set i a) (vs.set i v)
 |_,[],_,h=>by rw[show _=_ from h];exact rfl
 |0,x::l,_,⟨u,q,e,p1,p2⟩=>by subst e;exact⟨v,q,rfl,r,p2⟩
 |i+1,x::l,_,⟨u,q,e,p1,p2⟩=>by subst e;exact⟨u,_,rfl,p1,ZT.set r p2⟩
def QC {α:Type}(xs:List α) (lo hi:Option Int) (ys:List α):List α:=xs.take (Si xs.length lo)++ys++xs.drop (max (Si xs.length lo) (L7 xs.length hi))
def xJ (o:AO) (lo hi:Option Int) (p:AO) (k:AO->Prop):Prop:=opt (I3 o) fun xs=>opt (I3 p) fun ys=>k (.Z_ (QC xs lo hi ys))
def xH (l:Nat) (a b c:AV) (σ:St) (K:St->Prop):Prop:=CY a fun i=>opt σ.hp[i]? fun o=>(match OM b with
 |some s=>CY c fun j=>opt σ.hp[j]? fun p=>ok (!gZ i j) (xJ o s.1 s.2 p fun q=>Wc l (small (Za o+Za p)) σ fun σ=>K {σ with hp:=σ.hp.set i q})
 |none=>Un b fun k=>(match U3 o with
  |some d=>Wc l (small d.length) σ fun σ=>K {σ with hp:=σ.hp.set i (.dict (K2 d k c))}
  |none=>ok (Vc o) (Wc l (match decide (0<=k) with|true=>Wq k (Za o)|false=>false) σ fun σ=>K {σ with hp:=σ.hp.set i (A8 o k.toNat c)})))
def nF (G:Gm) (n:Nat) (t:h_->h_->h_->Sem Unit) (a b c:AV) (σ:St) (K:St->Prop) (X:XK):Prop:=
 ∀{{L:Addr}} {{fs:Frs}} {{ω:Wd}} {{u v w:h_}},RV ω a u->RV ω b v->RV ω c w->Pt G n RU L fs ω (t u v w) σ (fun _=>K) X
theorem Z0.qL {cs:List (Part->Prop)}{V:Part}{ρ:List Addr}{B:Part}{a:Addr}(h:Z0 cs V):Z0 (Y3 ρ B a .gone::cs) V:=
 ⟨fun _=>none,V,fun _ h=>absurd rfl h,(fun _ _ e=>nomatch e),Le.rfl,trivial,h⟩
theorem LY {ρ:List Addr}{B V:Part}{q:AO}{lq:List AV}{c:Addr}(hq:ZC q=some lq) (x:Y3 ρ B c q V):V c≠none:=by
 obtain ⟨vs,_,nn,e⟩:=(Xm hq).mp x
 rw[e];exact fun z=>nomatch z
theorem EJ {L:Addr}{ω:Wd}{fs:Frs}{h:Heap}{i j:Nat}{o p:AO}{la lb:List AV}{a b:Addr}(hij:(!gZ i j)=true) (R:Rel G L ω σ fs h)
  (hi:σ.hp[i]?=some o) (hj:σ.hp[j]?=some p) (ea:ZC o=some la) (eb:ZC p=some lb) (ra:RV ω (.loc i) (.ref a)) (rb:RV ω (.loc j) (.ref b)):a≠b:=by
 obtain ⟨m,lm,R⟩:=R
 obtain ⟨_,e1,q1⟩:=ra
 obtain ⟨_,e2,q2⟩:=rb
 cases q1;cases q2
 obtain ⟨c,rest,e3,⟨V,S,V1,V2,d,l1,l2,x,r⟩,k,_⟩:=R.at hi
 obtain rfl:a=c:=gj (e1.symm.trans e3)
 have hne:i≠j:=fun e=>by subst e;rw[c_] at hij;cases hij
 obtain ⟨c,pre,post,f1,f2,_⟩:=YM (B:=ω.B) (ρ:=ω.ρ) (r:=ω.ρ) (H:=σ.hp.set i .gone) (i:=j) (o:=p) (by rw[c7];exact R.len) (by rw[aC hne];exact hj)
 obtain rfl:b=c:=gj (e2.symm.trans f1)
 have y:=k .gone V2 (Z0.qL r)
 rw[f2,gG] at y
 obtain ⟨W1,W2,_,w1,_,x',_⟩:=Z0.YK y
 rintro rfl
 exact XN w1 (LY eb x') (d _ (LY ea x))
section
variable {L:Addr}{fs:Frs}{ω:Wd}{u v w:h_}{K:St->Prop}{i j:Nat}{k:Int}{t:Tok}{c:AV}{o p:AO}
theorem set_dict {d:List (Int×AV)}(hi:σ.hp[i]?=some (.dict d)) (hc:small d.length=true) (ru:RV ω (.loc i) u) (rw':RV ω c w) (q:K {σ with hp:=σ.hp.set i (.dict (K2 d k c))}):Pt G n RU L fs ω (d_ u (.int k t) w) σ (fun _=>K) X:=fun A h' hA R=>by
 obtain ⟨ad,m,rest,rfl,S,back⟩:=R.at hi ru
 obtain ⟨kvs,S⟩:=S.ex
 obtain ⟨F,S⟩:=S.fact
 have hm:=S.dictOf (p:=G.prog) (w:=G.w)
 have hlen:kvs.length=d.length:=by have:=congrArg List.length F.keys;simpa using this
 obtain ⟨_,_,_,_,_,_,_,_,qK⟩:=id hm
 intro s Q' E hs k' kx
 subst hs
 refine wpAny_setItem_pairs (knd:=fh G.prog G.w) (k:=k) (isInt_self k t) hm (fun h'' hm' hb=>k' _ h'' _ ⟨(),_,ω,q,.rfl,back (.dict (K2 d k c)) h'' ?_,trivial⟩) (by rw[hlen];exact Ze hc)
 obtain ⟨o',es,ep,e',r'⟩:=id hm'
 obtain ⟨V,S,V1,V2,dd,l1,l2,⟨o,e,q⟩,r⟩:=S
 exact SS.Np e dd l1 l2 r (S.change (l1 _ _ e) hb e') ⟨_,F.stored rw' qK,o',Z6 _ _ _,fun p w h3 e3=>R7 hm' e' e3⟩
theorem set_list (hi:σ.hp[i]?=some o) (hl:Vc o=true) (h0:0<=k) (hc:Wq k (Za o)=true) (ru:RV ω (.loc i) u) (rw':RV ω c w) (q:K {σ with hp:=σ.hp.set i (A8 o k.toNat c)}):Pt G n RU L fs ω (d_ u (.int k t) w) σ (fun _=>K) X:=fun A h' hA R=>by
 obtain ⟨l',hl'⟩:=Xx hl
 obtain ⟨h1,h2⟩:=Sd hc
 obtain ⟨_,_,b1,b2⟩:=Vw h1
 have hz:=gp h2
 obtain ⟨ad,m,rest,vs,rfl,rs,⟨V,S,V1,V2,d,l1,l2,⟨n1,e1⟩,r⟩,same,back⟩:=R.lst hi hl' ru
 have hlen:vs.length=Za o:=by rw[ZT.length rs,YZ hl']
 intro s Q' E hs k' kx
 subst hs
 refine QX (l1:=n1) (S.YW _ _ (l1 _ _ e1)) h0 (by omega) (by rw[gM,hlen];exact b2) fun h'' qJ hb=>k' _ h'' s.toks ⟨(),_,ω,q,.rfl,back _ _ (vs.set k.toNat w) h'' (OI hl') (ZT.set rw' rs) ?_,trivial⟩
 obtain ⟨n2,qJ⟩:=qJ
 refine SS.Np e1 d l1 l2 r (S.change (l1 _ _ e1) hb qJ) ⟨n2,?_⟩
 rw[Z6];congr 1;congr 1;apply dU.mp;simp
theorem EI {xs ys:List Int}{lo hi':Option Int}(hi:σ.hp[i]?=some (.Z_ xs)) (hj:σ.hp[j]?=some (.Z_ ys)) (hij:(!gZ i j)=true) (hc:small (xs.length+ys.length)=true) (ru:RV ω (.loc i) u) (rv:RV ω (.Xr lo hi') v) (rw':RV ω (.loc j) w) (q:K {σ with hp:=σ.hp.set i (.Z_ (QC xs lo hi' ys))}):Pt G n RU L fs ω (d_ u v w) σ (fun _=>K) X:=fun A h' hA R=>by
 obtain ⟨ad,m,rest,vs,rfl,rs,S,same,back⟩:=R.lst hi rfl ru
 obtain ⟨bd,m2,QD,us,rfl,KO,S2,_,_⟩:=R.lst hj rfl rw'
 have hne:=EJ hij R hi hj rfl rfl ru rw'
 obtain ⟨sa,vl,vu,rfl,p1,p2,es⟩:=rv
 obtain ⟨n1,g1⟩:=S.YF
 obtain ⟨n2,g2⟩:=S2.YF
 have hz:xs.length+ys.length<=100000:=gp hc
 have l1:vs.length=xs.length:=by rw[ZT.length rs,gn]
 have l2:us.length=ys.length:=by rw[ZT.length KO,gn]
 have gs:=R.Vd _ _ es
 intro s Q' E hs k' kx
 subst hs
 refine QY g1 g2 hne ⟨_,gs,rfl,rfl⟩ p1 p2 (by rw[gM,gM];omega) (k' _ _ s.toks ⟨(),_,ω,q,.rfl,back (.Z_ (QC xs lo hi' ys)) _ (QC vs lo hi' us) _ rfl ?_ (S.mapSeq ?_),trivial⟩)
 ·unfold QC
  rw[c6,c6,List.map_take,List.map_drop,l1]
  exact ZT.append (ZT.drop rs) (ZT.append KO (ZT.take rs))
 ·unfold QC
  rw[gM]
  apply dU.mp
  simp[cC]
theorem EH {l:Nat}{a b:AV}(h:xH l a b c σ K):nF G n (fun u v w=>d_ u v w) a b c σ K X:=fun L fs ω u v w ru rv rw'=>by
 apply U4 h ru
 intro i h ru
 obtain ⟨o,hi,hf⟩:=Z3 h
 cases e:OM b with
 |some s=>
  rw[e] at hf
  rw[PS e] at rv
  apply U4 hf rw'
  intro j h rw'
  obtain ⟨p,hj,h⟩:=Z3 h
  obtain ⟨hij,h⟩:=ZS h
  obtain ⟨xs,e1,h⟩:=Z3 h
  obtain ⟨ys,e2,h⟩:=Z3 h
  cases SN e1
  cases SN e2
  apply XR (by assumption)
  intro os hc h
  exact EI (σ:={σ with os:=os}) hi hj hij hc ru rv rw' h
 |none=>
  rw[e] at hf
  apply YR hf rv
  intro k t h
  cases e:U3 o with
  |some d=>
   rw[e] at h
   cases Vv e
   apply XR h
   intro os hc h
   exact set_dict (σ:={σ with os:=os}) hi hc ru rw' h
  |none=>
   rw[e] at h
   obtain ⟨hl,h⟩:=ZS h
   apply XR h
   intro os hc h A h' hA R
   obtain ⟨h0,hc⟩:=U6 hc
   exact set_list (σ:={σ with os:=os}) hi hl (of_decide_eq_true h0) hc ru rw' h hA R
end
end
def Ul (e:Expr):Bool:=gK 8 e.ctorIdx && gK e.ctorIdx 10
theorem LX {value:Expr}{t:Option Expr}{line:Nat}{env:Env}(h:Ul value=false):dN value t line env=pure false:=by
 cases value<;>first|rfl|cases h
theorem Uk {value t:Expr}{line:Nat}{env:Env}(h:Ul value=false):swapsWithSole [t] value line env=pure false:=LX h
def isTup (e:Expr):Bool:=gK 24 e.ctorIdx && gK e.ctorIdx 25
def PK (e:Expr):Bool:=gZ e.ctorIdx 25
theorem IE {t value:Expr}{env:Env}(h:(isTup t && PK value)=false):cK [t] value env=pure none:=by
 unfold cK
 cases t<;>first|rfl|(cases value<;>first|rfl|cases h)
theorem Yh {t:Expr}{r:List Expr}{env:Env}(h:ZD t=false):eK (t::r) env=(false,fJ t env)::eK r env:=by
 cases t<;>first|rfl|cases h
theorem XW {env:Env}:∀{es:List Expr},(es.any ZD)=false->(eK es env).length=es.length/\(eK es env).findIdx? (·.1)=none
 | [],_=>⟨rfl,rfl⟩
 |e::r,h=>by
  rw[dh,bC] at h
  obtain ⟨a,b⟩:=XW (env:=env) h.2
  rw[Yh h.1]
  refine⟨by simp[a],?_⟩
  rw[List.findIdx?_cons,b];rfl
def nameAt (Φ:Fm) (line:Nat):Expr->Option Str
 | .Name id pos=>match lk Φ.sc.names id with|some .local=>(match gZ pos.line line with|true=>some id|false=>none)|_=>none
 |_=>none
def zg (Φ:Fm) (ts vs:List Expr):Option (Option (List Str)):=
 match (gZ ts.length 2||gZ ts.length 3) && gZ vs.length ts.length with
 |false=>some none
 |true=>match vs.any ZD with
  |true=>some none
  |false=>match ts.filterMap (nameAt Φ ((ts.head?.map (·.pos.line)).getD 0)) with
   |names=>match gZ names.length ts.length && distinct names with
    |false=>(match gZ names.length ts.length with|false=>some none|true=>none)
    |true=>match vs.all (foldedForSure 8) with
     |true=>some none
     |false=>match vs.all (constantsAlone 8) with
      |true=>none
      |false=>some (some names)
theorem KC {k:Option gr}:(k==some .local)=(match k with|some .local=>true|_=>false):=by
 cases k with
 |none=>rfl
 |some k=>cases k<;>rfl
theorem PJ (a b:Nat):(a==b)=gZ a b:=by
 cases q:gZ a b with
 |true=>simpa using e_ q
 |false=>
  have:a≠b:=fun e=>by rw[e,c_] at q;cases q
  simpa using this
theorem EG {Φ:Fm}{env:Env}{ρ:List Addr}(he:Zb Φ env ρ) (line:Nat) (id:Str) (pos:Pos):(if (env.kindOf id==some .local && pos.line==line)=true then some id else none)=nameAt Φ line (.Name id pos):=by
 show _=(match lk Φ.sc.names id with|some .local=>(match gZ pos.line line with|true=>some id|false=>none)|_=>none)
 rw[he.kindOf,KC,PJ]
 generalize lk Φ.sc.names id=kk
 generalize gZ pos.line line=bb
 cases kk with
 |none=>rfl
 |some kk=>cases kk<;>cases bb<;>rfl
theorem OH {f g:Expr->Option Str}{ts:List Expr}(h:∀t,f t=g t):ts.filterMap f=ts.filterMap g:=by rw[show f=g from funext h]
theorem U1 {l:List Str}(h:distinct l=true):l.eraseDups.length=l.length:=by
 have hn:=XY h
 clear h
 induction l with
 |nil=>rfl
 |cons x r ih=>
  rw[bY] at hn
  rw[List.eraseDups_cons,fR,fR]
  have:r.filter (fun b=> !b==x)=r:=by
   rw[List.filter_eq_self]
   intro a ha
   have:a≠x:=fun e=>hn.1 (e▸ha)
   simpa using this
  rw[this,ih hn.2]
theorem ID {Φ:Fm}{env:Env}{ρ:List Addr}(he:Zb Φ env ρ) {ts vs:List Expr}{k k2:Nat}{p p2:Pos}{r:Option (List Str)}(h:zg Φ ts vs=some r):cK [.Tuple ts k p] (.Tuple vs k2 p2) env=pure r:=by
 have hb:env.blockKind= .function:=by unfold Env.blockKind;rw[he.kd];rfl
 have b2:=PJ
 unfold zg at h
 unfold cK
 show (if (!(ts.length==2||ts.length==3)||vs.length !=ts.length||env.blockKind != .function)=true then pure none else _)=pure r
 have e0:(!(ts.length==2||ts.length==3)||vs.length !=ts.length||env.blockKind != .function)= !((gZ ts.length 2||gZ ts.length 3) && gZ vs.length ts.length):=by
  rw[hb,b2,b2,bne,b2]
  cases gZ ts.length 2<;>cases gZ ts.length 3<;>cases gZ vs.length ts.length<;>rfl
 rw[e0]
 cases h1:((gZ ts.length 2||gZ ts.length 3) && gZ vs.length ts.length) with
 |false=>rw[h1] at h;cases h;rfl
 |true=>
  rw[h1] at h
  rw[if_neg (by decide)]
  have e1:(vs.any fun| .Starred .. =>true|_=>false)=vs.any ZD:=by
   congr 1
  show (if (vs.any fun| .Starred .. =>true|_=>false)=true then pure none else _)=pure r
  rw[e1]
  cases h2:vs.any ZD with
  |true=>rw[h2] at h;cases h;rfl
  |false=>
   rw[h2] at h
   rw[if_neg (by decide)]
   dsimp only
   rw[OH (g:=nameAt Φ ((ts.head?.map (·.pos.line)).getD 0)) (fun t=>by cases t<;>first|exact EG he _ _ _|rfl)]
   dsimp only at h
   generalize ts.filterMap (nameAt Φ ((ts.head?.map (·.pos.line)).getD 0))=names at h ⊢
   have e3:(names.length !=ts.length)= !(gZ names.length ts.length):=by rw[bne,b2]
   rw[e3]
   cases h3:gZ names.length ts.length with
   |false=>rw[h3] at h;cases h;rfl
   |true=>
    rw[h3] at h
    cases h4:distinct names with
    |false=>rw[h4] at h;cases h
    |true=>
     rw[h4] at h
     have e4:(names.eraseDups.length !=names.length)=false:=by rw[U1 h4];simp
     rw[e4]
     rw[if_neg (by decide)]
     cases h5:vs.all (foldedForSure 8) with
     |true=>rw[h5] at h;cases h;rfl
     |false=>
      rw[h5] at h
      rw[if_neg (by decide)]
      cases h6:vs.all (constantsAlone 8) with
      |true=>rw[h6] at h;cases h
      |false=>rw[h6] at h;cases h;rfl
section
variable {G:Gm}{n:Nat}{Φ:Fm}{σ Z4 ZW Zq ZH:St}{X:XK}
theorem Rel.keeps {L:Addr}{ω:Wd}{fs:Frs}{h h':Heap}(R:Rel G L ω σ fs h) (hk:∀a o,h.get? a=some o->h'.get? a=some o):Rel G L ω σ fs h':=by
 obtain ⟨m,l,R⟩:=R
 exact⟨m,l,R.len,R.ss.keeps hk⟩
theorem KA {x:Str}{pos:Pos}{a:AV}{K:St->Prop}(hl:lk Φ.sc.names x=some .local) (q:K {σ with loc:=Mine.put σ.loc x a}):Rg G n Φ (.Name x pos) a σ K X:=fun env ω fs v he r A h hA R=>by
 obtain ⟨m,l,R'⟩:=R
 exact Uu R'.ss (fun h'' S=>⟨(),_,ω,q,.rfl,⟨_,l.put r,R'.len,S⟩,trivial⟩) (by rw[he.kindOf];exact hl) rfl he.XJ
theorem Kz {x:Str}{pos:Pos}{a:AV}{i:Nat}{c0:Option AV}{K:St->Prop}(hl:lk Φ.sc.names x=some .cell) (hi:lk Φ.cm x=some i) (hc:σ.hp[i]?=some (.cell c0)) (q:K {σ with hp:=σ.hp.set i (.cell (some a))}):Rg G n Φ (.Name x pos) a σ K X:=fun env ω fs v he r A h hA R=>by
 obtain ⟨m,l,R'⟩:=R
 obtain ⟨c,hcl,XD⟩:=he.cells x i hi
 obtain ⟨c',rest,e1,S,_,back⟩:=R'.at hc
 obtain rfl:c'=c:=by rw[XD] at e1;exact(gj e1).symm
 have S':∃v0,SS G.hS ω.B env.locals m (Vg c' v0::rest) h:=by
  cases c0 with
  |none=>exact⟨none,S⟩
  |some b=>obtain ⟨v,S⟩:=S.ex;obtain ⟨_,S⟩:=S.fact;exact⟨some v,S⟩
 obtain ⟨v0,S⟩:=S'
 exact K6 S (fun h'' yr=>⟨(),_,ω,q,.rfl,⟨m,l,back (.cell (some a)) m h'' (yr.conv fun V hV=>⟨v,r,hV⟩)⟩,trivial⟩) hcl he.kd (by rw[he.kindOf];exact hl)
theorem Uj {o:Expr}{attr:Str}{pos:Pos}{a:AV}{K:St->Prop}(x:Zd G n Φ o σ (fun b Z4=>Nj G n RU (fun u v=>fj u attr v) b a Z4 (fun _=>K) X) X):Rg G n Φ (.Attribute o attr pos) a σ K X:=fun env ω fs v he r A h hA R=>
 K8 ((x he hA R).mono (fun u ZU ⟨b,Z4,ZR,k,ZX,ZK,Zx⟩=>(k Zx (r.up ZX) hA ZK).mono (fun _ _ p=>p.up ZX) fun _ _ p=>p.up ZX) fun _ _ p=>p)
theorem IC {o i:Expr}{pos:Pos}{a:AV}{K:St->Prop}(x:Zd G n Φ o σ (fun b Z4=>Zd G n Φ i Z4 (fun c ZW=>nF G n (fun u v w=>d_ u v w) b c a ZW K X) X) X):Rg G n Φ (.Subscript o i pos) a σ K X:=fun env ω fs v he r A h hA R=>
 Jr ((x he hA R).mono (fun u ZU ⟨b,Z4,ZR,k,ZX,ZK,Zx⟩=>(k (he.up ZX) hA ZK).mono (fun v ZO ⟨c,ZW,Zl,k,l₂,Zg,Yx⟩=>(k (Zx.up l₂) Yx (r.up (ZX.trans l₂)) hA Zg).mono (fun _ _ p=>p.up (ZX.trans l₂)) fun _ _ p=>p.up (ZX.trans l₂)) fun _ _ p=>p.up ZX) fun _ _ p=>p)
def IB (G:Gm) (n:Nat) (Φ:Fm) (ts:List Expr) (as:List AV) (σ:St) (K:St->Prop) (X:XK):Prop:=
 ∀{{env:Env}} {{ω:Wd}} {{fs:Frs}} {{vs:List h_}},Zb Φ env ω.ρ->Xn ω as vs->Pt G n RU env.locals fs ω (bZ ((eK ts env).map (·.2)) vs) σ (fun _=>K) X
theorem EF {K:St->Prop}(q:K σ):IB G n Φ [] [] σ K X:=fun env ω fs vs he r A h hA R=>by
 obtain rfl:vs= []:=r
 exact Fw (R.here (RR:=RU) (a:=()) trivial q)
theorem A7 {t:Expr}{ts:List Expr}{a:AV}{as:List AV}{K:St->Prop}(hs:ZD t=false) (x:Rg G n Φ t a σ (fun Z4=>IB G n Φ ts as Z4 K X) X):IB G n Φ (t::ts) (a::as) σ K X:=fun env ω fs vs he ⟨v,r,e,r1,r2⟩ A h hA R=>by
 subst e
 exact BH ((x he r1 hA R).mono (fun _ ZU ⟨_,Z4,ZR,k,ZX,ZK,_⟩=>(k (he.up ZX) (Xn.up ZX r2) hA ZK).mono (fun _ _ p=>p.up ZX) fun _ _ p=>p.up ZX) fun _ _ p=>p) (Yh hs)
theorem LW {ts:List Expr}{q:Nat}{pos:Pos}{as:List AV}{vs:List h_}{T:Addr}{K:St->Prop}{env:Env}{ω:Wd}{fs:Frs}{A:gY}{h:Heap}(hs:ts.any ZD=false) (hl:ts.length=as.length) (x:IB G n Φ ts as σ K X) (he:Zb Φ env ω.ρ) (hB:ω.B T=some (WZ vs)) (r:Xn ω as vs) (hA:Wu n A env.locals fs) (R:Rel G env.locals ω σ fs h):
  W G.prog G.w A (fJ (.Tuple ts q pos) env (.ref T)) (PG G RU env.locals fs ω (fun _=>K)) (PG G RV env.locals fs ω X) h:=fun s Q' E hs' k kx=>by
 subst hs'
 obtain ⟨m,lm,R'⟩:=id R
 obtain ⟨V,S,_⟩:=R'.ss
 obtain ⟨h1,h2⟩:=XW (env:=env) hs
 refine assign_Tuple_tuple hA.hd (items:=vs.toArray) ⟨_,S.keep _ _ hB,rfl,_,rfl⟩ (by rw[h1,gM,ZT.length r];exact hl) h2 fun h' hk=> ?_
 exact(x he r hA (R.keeps fun a o e=>hk a o (f_ (gJ e)) e)).go k kx
theorem IA {ts:List Expr}{q:Nat}{pos:Pos}{l:List D}{K:St->Prop}(hs:ts.any ZD=false) (hl:ts.length=l.length) (x:IB G n Φ ts (l.map .d) σ K X):Rg G n Φ (.Tuple ts q pos) (.d (.tup l)) σ K X:=fun env ω fs v he r A h hA R=>by
 obtain ⟨T,vs,rfl,eB,rs⟩:=KR r
 exact LW hs (by simp[hl]) x he eB rs.Sm hA R
theorem R4 {t value:Expr}{pos:Pos}{K:Zk->St->Prop}(hc:Ul value=false) (ht:(isTup t && PK value)=false) (hst:ZD t=false) (x:Zd G n Φ value σ (fun a Z4=>Rg G n Φ t a Z4 (K .next) X) X):We G n Φ (.Assign [t] value pos) σ K X:=fun env ω fs he A h hA R=>
 QK ((x he hA R).mono (fun v ZU ⟨a,Z4,ZR,k,ZX,ZK,Zx⟩=>(k (he.up ZX) Zx hA ZK).mono (fun _ ZO ⟨_,ZW,Zl,k,l₂,Zg,_⟩=>⟨.next,ZW,Zl,k,ZX.trans l₂,Zg,rfl⟩) fun _ _ p=>p.up ZX) fun _ _ p=>p) (Uk hc) (IE ht) (Yh hst)
theorem A6 {elts:List Expr}{q:Nat}{pos:Pos}{K:List AV->St->Prop}(x:SR G n Φ elts σ (fun as Z4=>small as.length=true/\K as Z4) X) {env:Env}{ω:Wd}{fs:Frs}{A:gY}{h:Heap}(he:Zb Φ env ω.ρ) (hA:Wu n A env.locals fs) (R:Rel G env.locals ω σ fs h):
  W G.prog G.w A (eval (.Tuple elts q pos) env) (fun v h'=>∃T vs as Z4 ZR,v= .ref T/\K as Z4/\ω.le ZR/\ZR.B T=some (WZ vs)/\Xn ZR as vs/\Rel G env.locals ZR Z4 fs h') (PG G RV env.locals fs ω X) h:=
 Qh ((x pos he hA R).mono (fun vs ZU ⟨as,Z4,ZR,⟨hz,k⟩,ZX,ZK,Zx⟩=>by
  obtain ⟨m,cs,S,_,_,Q5⟩:=ZK.cs
  refine U' S (fun a h' S'=> ?_) (by rw[ZT.length Zx];exact Ze hz)
  obtain ⟨B',le,e,R'⟩:=Q5 a _ h' S'
  exact⟨a,vs,as,Z4,_,rfl,k,ZX.trans (.kept le),e,Zx.up (.kept le),R'⟩) fun _ _ p=>p)
theorem Ky {ts vs:List Expr}{k k2:Nat}{p p2 pos:Pos}{K:Zk->St->Prop}(hw:zg Φ ts vs=some none) (hst:ts.any ZD=false) (x:SR G n Φ vs σ (fun as Z4=>small as.length=true/\(ts.length=as.length/\IB G n Φ ts as Z4 (K .next) X)) X):We G n Φ (.Assign [.Tuple ts k p] (.Tuple vs k2 p2) pos) σ K X:=fun env ω fs he A h hA R=>
 QK ((A6 x he hA R).mono (fun v ZU ⟨T,us,as,Z4,ZR,e,⟨hl,k⟩,ZX,eB,rs,ZK⟩=>by
  subst e
  exact(LW hst hl k (he.up ZX) eB rs hA ZK).mono (fun _ ZO ⟨_,ZW,Zl,k,l₂,Zg,_⟩=>⟨.next,ZW,Zl,k,ZX.trans l₂,Zg,rfl⟩) fun _ _ p=>p.up ZX) fun _ _ p=>p) (Uk rfl) (ID he hw) (Yh rfl)
def R3 (names:List Str) (as:List AV) (loc:List (Str×AV)):List (Str×AV):=(Ur names as).foldr (fun p l=>Mine.put l p.1 p.2) loc
theorem YS.rev {ω:Wd}:∀{ps:List Str}{as:List AV}{vs:List h_}{m:Str->Option h_}{l:List (Str×AV)},ps.length=vs.length->Xn ω as vs->YS ω l m->
  YS ω (R3 ps as l) ((gH ps vs).foldr (fun p m=>upd m p.1 (some p.2)) m)
 | [],as,vs,m,l,_,_,h=>by cases as<;>exact h
 |p::ps,[],vs,m,l,e,r,h=>by rw[show vs= [] from r] at e;cases e
 |p::ps,a::as,_,m,l,e,⟨v,vs,e',r1,r2⟩,h=>by
  subst e'
  exact(YS.rev (ps:=ps) (by simpa using e) r2 h).put r1
theorem Kx {ts vs:List Expr}{names:List Str}{k k2:Nat}{p p2 pos:Pos}{K:Zk->St->Prop}(hw:zg Φ ts vs=some (some names)) (hloc:XZ Φ.sc names=true) (x:SR G n Φ vs σ (fun as Z4=>small as.length=true/\(names.length=as.length/\K .next {Z4 with loc:=R3 names as Z4.loc})) X):We G n Φ (.Assign [.Tuple ts k p] (.Tuple vs k2 p2) pos) σ K X:=fun env ω fs he A h hA R=>by
 refine K7 (hS:=G.hS) ?_ hA.hd (ID he hw) (Uk rfl) ?_ he.XJ
 ·refine Qh ((x p2 he hA R).mono (fun us ZU ⟨as,Z4,ZR,⟨hz,hl,k⟩,ZX,ZK,Zx⟩=> ?_) fun _ _ p=>p)
  obtain ⟨m,lm,R'⟩:=ZK
  refine U' R'.ss (fun a h' S'=>⟨a,us,ZR.B,m,_,rfl,by rw[ZT.length Zx];exact hl,S',fun h'' yr=> ?_⟩) (by rw[ZT.length Zx];exact Ze hz)
  exact⟨.next,_,ZR,k,ZX,⟨_,YS.rev (by rw[ZT.length Zx];exact hl) Zx lm,R'.len,yr.weak⟩,rfl⟩
 ·rw[gu]
  intro x hx
  have:=VT hloc x hx
  have e:env.kindOf x=some .local:=by rw[he.kindOf,<-Vf];exact this
  rw[e];rfl
theorem EE {pos:Pos}{K:AV->St->Prop}(k:K (.loc σ.hp.length) {σ with hp:=σ.hp++ [.dict []]}):Zd G n Φ (.Dict [] [] pos) σ K X:=fun env ω fs he A h hA R s Q' E hs k' kx=>by
 subst hs
 obtain ⟨m,cs,S,new,_,_⟩:=R.cs
 refine wpAny_Dict_empty (k' _ _ s.toks ?_)
 have hd:Y3 (ω.ρ++ [s.heap.objs.size]) ω.B s.heap.objs.size (.dict []) (upd (fun _=>none) s.heap.objs.size (some {cls:= .type "dict",data:= .dict #[]})):=
  ⟨[],rfl,_,Z6 _ _ _,fun p w h e=>R7 (Heap.DictOf.new (knd:=fh p w) s.heap) (fy _ rfl) e⟩
 obtain ⟨R',r'⟩:=new s.heap.objs.size (.dict []) _ (S.Xg (o:={cls:= .type "dict",data:= .dict #[]}) rfl hd)
 exact⟨_,_,_,k,.new,R',r'⟩
theorem UK {i:Nat}{o:AO}{x:Str}{b:BI}{id:String}(hi:σ.hp[i]?=some o) (hl:Vc o=true) (slot:Slot "list" x id) (hty:typeOf (.builtin id)=pure (.type "method_descriptor")) (hb:C6 b= .builtin id):C1 G n (.loc i) x σ (.bi b) [.loc i]:=fun L fr ω u pl A h r hA R Q X' q=>by
 obtain ⟨l,hl'⟩:=Xx hl
 obtain ⟨ad,m,rest,vs,rfl,rs,S,_,_⟩:=R.lst hi hl' r
 exact Nn S slot hty (q _ _ hb.symm ⟨_,[],rfl,r,rfl⟩)
theorem ED {i:Nat}{d:List (Int×AV)}(hi:σ.hp[i]?=some (.dict d)):C1 G n (.loc i) "get" σ (.bi .K5) [.loc i]:=fun L fr ω u pl A h r hA R Q X' q=>by
 obtain ⟨ad,m,rest,rfl,S,_⟩:=R.at hi r
 obtain ⟨kvs,S⟩:=S.ex
 obtain ⟨F,S⟩:=S.fact
 have hm:=S.dictOf (p:=G.prog) (w:=G.w)
 intro s Q' E hs k' kx
 subst hs
 have q1:RV ω (.bi .K5) (.builtin "dict.get"):=rfl
 have q2:Xn ω [.loc i] [.ref ad]:=ZT.cons r .nil
 with_reducible exact getMethod_builtin hm.typeIs PySem.F.plainAttrs_dict PySem.F.slot_dict_get PySem.F.type_dict_get hm.mapOf.noDict (k' _ s.heap s.toks (q _ _ q1 q2))
theorem LV {s0:Str}{x:Str}{b:BI}{id:String}(slot:Slot "str" x id) (hty:typeOf (.builtin id)=pure (.type "method_descriptor")) (hb:C6 b= .builtin id):C1 G n (.d (.str s0)) x σ (.bi b) [.d (.str s0)]:=fun L fr ω u pl A h r hA R Q X' q=>by
 obtain ⟨t,rfl⟩:=U5 r
 intro s Q' E hs k' kx
 subst hs
 have q1:RV ω (.bi b) (.builtin id):=hb.symm
 have q2:Xn ω [.d (.str s0)] [.str s0 t]:=ZT.cons r .nil
 with_reducible exact PySem.GM.of (.str s0 t) (typeIs_str _ _ _) slot hty PySem.GM.noRef (k' _ s.heap s.toks (q _ _ q1 q2))
def xG (G:Gm) (n:Nat) (Φ:Fm) (k:Nat) (t:Expr) (σ:St) (Kd Kn:St->Prop):Prop:=
 ∀{{env:Env}} {{ω:Wd}} {{fs:Frs}} {{I:Addr}},Zb Φ env ω.ρ->RV ω (.loc k) (.ref I)->∀{{A:gY}} {{h:Heap}},Wu n A env.locals fs->Rel G env.locals ω σ fs h->
  W G.prog G.w A (pyNext (.ref I)) (fun r ZU=>match r with
   |none=>PG G RU env.locals fs ω (fun _=>Kd) () ZU
   |some v=>W G.prog G.w A (bV t (.ref I) v) (fun _ ZO=>W G.prog G.w A (fJ t env v) (PG G RU env.locals fs ω (fun _=>Kn)) (fun _ _=>False) ZO) (fun _ _=>False) ZU) (fun _ _=>False) h
def Kw (G:Gm) (n:Nat) (Φ:Fm) (k:Nat) (t:Expr) (body:List Stmt) (σ:St) (K:Zk->St->Prop):Prop:=
 ∀{{env:Env}} {{ω:Wd}} {{fs:Frs}} {{I:Addr}},Zb Φ env ω.ρ->RV ω (.loc k) (.ref I)->∀{{A:gY}} {{h:Heap}},Wu n A env.locals fs->Rel G env.locals ω σ fs h->
  WF G.prog G.w A (.forLoop t (.ref I) body [] env) (PG G RF env.locals fs ω K) h
abbrev Zn:XK:=fun _ _=>False
def Yl (K:Zk->St->Prop) (again:St->Prop) (fl:Zk) (σ:St):Prop:=match fl with| .next=>again σ| .cont=>again σ| .brk=>K .next σ| .ret a=>K (.ret a) σ
theorem Wo {k:Nat}{t:Expr}{body:List Stmt}{K:Zk->St->Prop}(Inv:Nat->St->Prop)
  (turn:∀c σ,Inv c σ->xG G n Φ k t σ (K .next) fun ZW=>X0 G n Φ body ZW (Yl K fun Zq=>∃c',c'<c/\Inv c' Zq) Zn) (c:Nat) (h0:Inv c σ):Kw G n Φ k t body σ K:=fun env ω fs I he rI A h hA R s RR hs g=>by
 subst hs
 refine codeAny_forLoop_any (fun c s'=>∃h' tk ZH Zw,s'={s with heap:=h',toks:=tk}/\ω.le Zw/\Inv c ZH/\Rel G env.locals Zw ZH fs h') ?_ c ⟨s.heap,s.toks,σ,ω,rfl,.rfl,h0,R⟩
 rintro c _ ⟨h',tk,ZH,Zw,rfl,l',hI,R'⟩
 refine(turn c ZH hI (he.up l') (rI.up l') hA R').go (fun r ZU OX y=> ?_) (fun _ _ _ y=>y.elim)
 cases r with
 |none=>
  obtain ⟨_,Z4,ZR,k₁,ZX,ZK,_⟩:=y
  exact wpAny_execs_nil (g _ _ _ ⟨.next,Z4,ZR,k₁,l'.trans ZX,ZK,rfl⟩)
 |some v=>
  refine y.go (fun _ ZO VV y=>y.go (fun _ X8 nE y=> ?_) (fun _ _ _ y=>y.elim)) (fun _ _ _ y=>y.elim)
  obtain ⟨_,Z4,ZR,k₁,ZX,ZK,_⟩:=y
  refine(k₁ (he.up (l'.trans ZX)) hA ZK).go (fun f Vn Iz y=> ?_) (fun _ _ _ y=>y.no)
  obtain ⟨fl,ZW,Zl,k₂,l₂,Zg,rf⟩:=y
  have l:=(l'.trans ZX).trans l₂
  cases fl with
  |next=>obtain rfl:f= .next:=rf;obtain ⟨c',hc,k₂⟩:=k₂;exact⟨c',hc,_,_,ZW,Zl,rfl,l,k₂,Zg⟩
  |cont=>obtain rfl:f= .cont:=rf;obtain ⟨c',hc,k₂⟩:=k₂;exact⟨c',hc,_,_,ZW,Zl,rfl,l,k₂,Zg⟩
  |brk=>obtain rfl:f= .brk:=rf;exact g _ _ _ ⟨.next,ZW,Zl,k₂,l,Zg,rfl⟩
  |ret a=>obtain ⟨v,rfl,r⟩:=rf;exact g _ _ _ ⟨.ret a,ZW,Zl,k₂,l,Zg,v,rfl,r⟩
theorem OG {iter:Expr}{env:Env}(h:isSet iter=false):∀x,foldedSetIterable iter env x=pure x:=fun x=>by cases iter<;>first|rfl|cases h
theorem LU {t iter:Expr}{body:List Stmt}{pos:Pos}{K:Zk->St->Prop}(hs:isSet iter=false) (x:Zd G n Φ iter σ (fun a Z4=>Q9 G n RV fM a Z4 (fun b ZW=>∃k,b= .loc k/\Kw G n Φ k t body ZW K) X) X):We G n Φ (.For t iter body [] pos) σ K X:=fun env ω fs he A h hA R=>
 yt ((x he hA R).mono (fun xv ZU ⟨a,Z4,ZR,k,ZX,ZK,Zx⟩=>(k Zx hA ZK).mono (fun it ZO ⟨b,ZW,Zl,⟨kk,e,k⟩,l₂,Zg,Yx⟩=>by
  subst e
  obtain ⟨I,e,rfl⟩:=id Yx
  exact fun s RR hs g=>k (he.up (ZX.trans l₂)) Yx hA Zg s RR hs fun f h' tk p=>g f h' tk (p.up (ZX.trans l₂))) fun _ _ p=>p.up ZX) fun _ _ p=>p) (OG hs)
theorem EC {test:Expr}{body:List Stmt}{pos:Pos}{K:Zk->St->Prop}(Inv:Nat->St->Prop)
  (turn:∀c σ,Inv c σ->V5 G n Φ test σ (fun b Z4=>match b with|false=>K .next Z4|true=>X0 G n Φ body Z4 (Yl K fun Zq=>∃c',c'<c/\Inv c' Zq) Zn) Zn) (c:Nat) (h0:Inv c σ):We G n Φ (.While test body [] pos) σ K X:=fun env ω fs he A h hA R=>by
 refine Fx (OY (fun c h'=>∃ZH Zw,ω.le Zw/\Inv c ZH/\Rel G env.locals Zw ZH fs h') (fun c h' ⟨ZH,Zw,l',hI,R'⟩=> ?_) c ⟨σ,ω,.rfl,h0,R⟩)
 refine(turn c ZH hI (he.up l') hA R').mono (fun b ZU ⟨b',Z4,ZR,k,ZX,ZK,e⟩=> ?_) fun _ _ y=>y.no
 obtain rfl:b=b':=e
 cases b with
 |false=>exact⟨fun e=>(nomatch e),fun _=>⟨.next,Z4,ZR,k,l'.trans ZX,ZK,rfl⟩⟩
 |true=>
  refine⟨fun _=>(k (he.up (l'.trans ZX)) hA ZK).mono (fun f ZO ⟨fl,ZW,Zl,k₂,l₂,Zg,rf⟩=> ?_) fun _ _ y=>y.no,fun e=>(nomatch e)⟩
  have l:=(l'.trans ZX).trans l₂
  cases fl with
  |next=>obtain rfl:f= .next:=rf;obtain ⟨c',hc,k₂⟩:=k₂;exact⟨c',hc,ZW,Zl,l,k₂,Zg⟩
  |cont=>obtain rfl:f= .cont:=rf;obtain ⟨c',hc,k₂⟩:=k₂;exact⟨c',hc,ZW,Zl,l,k₂,Zg⟩
  |brk=>obtain rfl:f= .brk:=rf;exact⟨.next,ZW,Zl,k₂,l,Zg,rfl⟩
  |ret a=>obtain ⟨v,rfl,r⟩:=rf;exact⟨.ret a,ZW,Zl,k₂,l,Zg,v,rfl,r⟩
theorem A5 {i:Nat}{o:AO}{u:h_}{L:Addr}{fs:Frs}{ω:Wd}{K:AV->St->Prop}(hi:σ.hp[i]?=some o) (hl:Vc o=true) (ru:RV ω (.loc i) u) (k:K (.loc σ.hp.length) {σ with hp:=σ.hp++ [.lit i 0]}):Pt G n RV L fs ω (fM u) σ K X:=fun A h hA R=>by
 obtain ⟨l,hl'⟩:=Xx hl
 obtain ⟨ad,m,rest,vs,rfl,rs,S,_,_⟩:=R.lst hi hl' ru
 obtain ⟨m3,F0,S3,new,_,_⟩:=R.cs
 obtain ⟨nn,ge⟩:=S.YF
 obtain ⟨_,e1,q⟩:=id ru
 cases q
 intro s Q' E hs k' kx
 subst hs
 refine wpAny_pyIter_list ⟨_,ge,rfl,nn,rfl⟩ (k' _ _ s.toks ?_)
 obtain ⟨R',r'⟩:=new s.heap.objs.size (.lit i 0) _ (S3.Xg (o:={cls:= .type "list_iterator",data:= .fields #[.ref ad,.int 0 0]}) rfl ⟨_,ad,Z6 _ _ _,Y7 (fC _ _) e1,f_ (gJ ge),fun h' e=>⟨_,e,rfl,rfl⟩⟩)
 exact⟨_,_,_,k,.new,R',r'⟩
theorem Rel.LS {L:Addr}{ω:Wd}{fs:Frs}{h:Heap}{o:Obj}{fp:List Addr}{nn:Nat}{P:Nat->h_->Prop}{S0:Nat->Heap->Prop}{tup:Bool}{els:List AV}{K:AV->St->Prop}(R:Rel G L ω σ fs h) (hf:o.isFreed=false) (hm:h.objs.size∈fp)
  (W:∀(prog:gP) (w:g8) (A:gY),A.handled=none->Walks prog w A h.objs.size fp [h.objs.size] nn P S0) (hB:∀b∈fp,b≠h.objs.size->∃ob,ω.B b=some ob)
  (st:∀h':Heap,h'.get? h.objs.size=some o->(∀b ob,ω.B b=some ob->h'.get? b=some ob)->S0 0 h') (ex:∀j h',S0 j h'->∃o,h'.get? h.objs.size=some o) (hn:els.length=nn)
  (lg:tup=true->∀(prog:gP) (w:g8) (A:gY) (E:h_->g7->Prop) (t:Expr) (v:h_) (Q:Unit->g7->Prop) (s:g7) (j:Nat),S0 j s.heap->Q () s->gW (gO prog w) A (bV t (.ref h.objs.size) v) Q E s)
  (el:∀j v e,els[j]?=some e->P j v->RV ω e v) (k:K (.loc σ.hp.length) {σ with hp:=σ.hp++ [.it tup els]}):PG G RV L fs ω K (.ref h.objs.size) (h.push o):=by
 obtain ⟨m3,F0,S3,new,_,_⟩:=R.cs
 obtain ⟨R',r'⟩:=new h.objs.size (.it tup els) _ (S3.Xg (o:=o) hf ⟨o,fp,nn,P,S0,0,Z6 _ _ _,hm,W,hB,st,ex,by omega,lg,fun j v e q p=>(RV.up .new (el j v e q (by simpa using p)))⟩)
 exact⟨_,_,_,k,.new,R',r'⟩
def Vt (s:Str):List AV:=s.cps.toList.map fun c=> .d (.str (Zj c))
theorem xF {x:Str}{u:h_}{L:Addr}{fs:Frs}{ω:Wd}{K:AV->St->Prop}(ru:RV ω (.d (.str x)) u) (k:K (.loc σ.hp.length) {σ with hp:=σ.hp++ [.it false (Vt x)]}):Pt G n RV L fs ω (fM u) σ K X:=fun A h hA R=>by
 obtain ⟨t,rfl⟩:=U5 ru
 intro s Q' E hs k' kx
 subst hs
 have el:∀j v e,(Vt x)[j]?=some e->SignAt x j v->RV ω e v:=fun j v e q p=>by
  unfold Vt at q
  rw[d8] at q
  obtain ⟨c,t',hc,rfl⟩:=p
  rw[bh,hc] at q
  cases q
  exact Bk
 have hl:(Vt x).length=x.cps.size:=by unfold Vt;rw[gn,dJ]
 cases ha:x.cps.all (·<128)
 ·refine wpAny_pyIter_wide ha (k' _ _ s.toks ?_)
  exact(Rel.LS (tup:=false) R rfl (fK.mpr rfl) (fun prog w A hh=>Walks.strWide hh _ x t) (fun b hb hne=>absurd (fK.mp hb) hne) (fun h' e _=>⟨_,e,rfl,rfl⟩) (fun i h' ⟨o,e,_⟩=>⟨o,e⟩) hl (fun e=>nomatch e) el k)
 ·refine wpAny_pyIter_ascii ha (k' _ _ s.toks ?_)
  exact(Rel.LS (tup:=false) R rfl (fK.mpr rfl) (fun prog w A hh=>Walks.strAscii hh _ x t) (fun b hb hne=>absurd (fK.mp hb) hne) (fun h' e _=>⟨_,e,rfl,rfl⟩) (fun i h' ⟨o,e,_⟩=>⟨o,e⟩) hl (fun e=>nomatch e) el k)
theorem xE {l:List D}{u:h_}{L:Addr}{fs:Frs}{ω:Wd}{K:AV->St->Prop}(ru:RV ω (.d (.tup l)) u) (k:K (.loc σ.hp.length) {σ with hp:=σ.hp++ [.it true (l.map .d)]}):Pt G n RV L fs ω (fM u) σ K X:=fun A h hA R=>by
 obtain ⟨T,vs,rfl,eB,rs⟩:=KR ru
 obtain ⟨m,lm,R'⟩:=id R
 obtain ⟨V,S,_⟩:=R'.ss
 have ge:=S.keep _ _ eB
 intro s Q' E hs k' kx
 subst hs
 have hne:T≠s.heap.objs.size:=f_ (gJ ge)
 refine wpAny_pyIter_tuple ⟨_,ge,rfl,_,rfl⟩ (k' _ _ s.toks ?_)
 refine(Rel.LS (tup:=true) (fp:= [s.heap.objs.size,T]) R rfl (.head _) (fun prog w A hh=>Walks.tuple hh _ T hne vs.toArray) (fun b hb hn=> ?_) (fun h' e hB=>⟨⟨_,e,rfl,rfl⟩,⟨_,hB _ _ eB,rfl,_,rfl⟩⟩) (fun i h' st=> ?_) ?_ (fun _ prog w A E t v Q s j st hq=>letGo_tupleiter st.1 hq) ?_ k)
 ·rcases gy.mp hb with e|hb
  ·exact absurd e hn
  ·exact⟨_,(fK.mp hb)▸eB⟩
 ·obtain ⟨⟨o,e,_⟩,_⟩:=st;exact⟨o,e⟩
 ·rw[gn,gM,ZE.length rs]
 ·intro j v e q p
  rw[d8] at q
  cases hl:l[j]? with
  |none=>rw[hl] at q;cases q
  |some d=>
   rw[hl] at q;cases q
   obtain ⟨v',e',r'⟩:=ZE.get rs hl
   rw[cZ,e'] at p
   cases p
   exact r'
def ZI (a:Int):Nat->List AV|0=> []|k+1=> .d (.int a)::ZI (a+1) k
def Yp (a:Int):Nat->List AV|0=> []|k+1=> .d (.int a)::Yp (a - 1) k
theorem Vs:∀(k:Nat) (a:Int),(ZI a k).length=k
 |0,_=>rfl
 |k+1,a=>by show (ZI (a+1) k).length+1=_;rw[Vs]
theorem QB:∀(k:Nat) (a:Int),(Yp a k).length=k
 |0,_=>rfl
 |k+1,a=>by show (Yp (a - 1) k).length+1=_;rw[QB]
theorem QA:∀(k:Nat) (a:Int) (j:Nat) (e:AV),(ZI a k)[j]?=some e->e= .d (.int (a+j))
 |0,_,_,_,h=>by simp[ZI] at h
 |k+1,a,0,e,h=>by simp[ZI] at h;simp[<-h]
 |k+1,a,j+1,e,h=>by
  have:=QA k (a+1) j e (by simpa [ZI] using h)
  rw[this];congr 2;push_cast;omega
theorem Qz:∀(k:Nat) (a:Int) (j:Nat) (e:AV),(Yp a k)[j]?=some e->e= .d (.int (a - j))
 |0,_,_,_,h=>by simp[Yp] at h
 |k+1,a,0,e,h=>by simp[Yp] at h;simp[<-h]
 |k+1,a,j+1,e,h=>by
  have:=Qz k (a - 1) j e (by simpa [Yp] using h)
  rw[this];congr 2;push_cast;omega
theorem LQ {a b c:Int}{u:h_}{L:Addr}{fs:Frs}{ω:Wd}{K:AV->St->Prop}{els:List AV}(hs:bW a b c=true) (hpos:0<=dW a b c) (hl:els.length=(dW a b c).toNat) (he:∀(j:Nat) (e:AV),els[j]?=some e->e=AV.d (.int (a+j*c)))
  (ru:RV ω (.K4 a b c) u) (k:K (.loc σ.hp.length) {σ with hp:=σ.hp++ [.it false els]}):Pt G n RV L fs ω (fM u) σ K X:=fun A h hA R=>by
 obtain ⟨r,t,u',w,rfl,eB⟩:=ru
 obtain ⟨m,lm,R'⟩:=id R
 obtain ⟨V,S,_⟩:=R'.ss
 intro s Q' E hs' k' kx
 subst hs'
 refine wpAny_pyIter_range (S.keep _ _ eB) hs (k' _ _ s.toks ?_)
 refine(Rel.LS (tup:=false) R rfl (fK.mpr rfl) (fun prog w A hh=>Walks.range hh _ a c (dW a b c).toNat) (fun b hb hne=>absurd (fK.mp hb) hne) (fun h' e _=> ?_) (fun i h' e=>⟨_,e⟩) hl (fun e=>nomatch e) (fun j v e q p=> ?_) k)
 ·rw[cM hpos]
  have:a+((0:Nat):Int)*c=a:=by simp
  have t2:dW a b c - ((0:Nat):Int)=dW a b c:=by simp
  rw[this,t2]
  exact e
 ·obtain ⟨t,rfl⟩:=p
  rw[he j e q]
  exact NB
theorem qI {a b:Int}{u:h_}{L:Addr}{fs:Frs}{ω:Wd}{K:AV->St->Prop}(hb:a.natAbs<=1000000/\b.natAbs<=1000000) (ru:RV ω (.K4 a b 1) u) (k:K (.loc σ.hp.length) {σ with hp:=σ.hp++ [.it false (ZI a (b - a).toNat)]}):Pt G n RV L fs ω (fM u) σ K X:=
 LQ (Jl ⟨(TA hb.1).1,(TA hb.1).2,(TA hb.2).1,(TA hb.2).2⟩) (by rw[Qe];exact Int.le_max_left 0 _) (by rw[Vs,Qe,QJ]) (fun j e q=>by rw[QA _ _ _ _ q,Int.mul_one]) ru k
theorem A4 {a b:Int}{u:h_}{L:Addr}{fs:Frs}{ω:Wd}{K:AV->St->Prop}(hb:a.natAbs<=1000000/\b.natAbs<=1000000) (ru:RV ω (.K4 a b (-1)) u) (k:K (.loc σ.hp.length) {σ with hp:=σ.hp++ [.it false (Yp a (a - b).toNat)]}):Pt G n RV L fs ω (fM u) σ K X:=
 LQ (small_down ⟨(TA hb.1).1,(TA hb.1).2,(TA hb.2).1,(TA hb.2).2⟩) (by rw[Ut];exact Int.le_max_left 0 _) (by rw[QB,Ut,QJ]) (fun j e q=>by rw[Qz _ _ _ _ q];congr 2;omega) ru k
def RZ (o:AO):Bool:=match o with| .lit .. =>true| .it .. =>true| .Vm .. =>true| .en .. =>true| .zp .. =>true|_=>false
theorem LO {k:Nat}{o:AO}{L:Addr}{ω:Wd}{fs:Frs}{I:Addr}{A:gY}{h:Heap}(hk:σ.hp[k]?=some o) (hs:RZ o=true) (rI:RV ω (.loc k) (.ref I)) (hA:Wu n A L fs) (R:Rel G L ω σ fs h) {Q:h_->Heap->Prop}{X':h_->Heap->Prop}(q:Q (.ref I) h):W G.prog G.w A (fM (.ref I)) Q X' h:=by
 obtain ⟨a,m,rest,e,S,back⟩:=R.at hk rI
 cases e
 obtain ⟨V,S,V1,V2,d,l1,l2,p,r⟩:=S
 intro s Q' E hs' k' kx
 subst hs'
 cases o with
 |lit i j=>
  obtain ⟨o,l,e,x,y,z⟩:=p
  exact wpAny_pyIter_listiter (z s.heap (S.YW _ _ (l1 _ _ e))) (k' _ s.heap s.toks q)
 |it tup els=>
  obtain ⟨o,fp,nn,P,S0,i,e,a1,a2,a3,a4,_⟩:=p
  exact(a2 G.prog G.w A hA.hd).self i s _ _ (a4 s.heap (S.YW _ _ (l1 _ _ e)) fun b ob e=>S.keep _ _ e) (k' _ s.heap s.toks q)
 |Vm i j=>
  obtain ⟨o,l,e,x,y,z⟩:=p
  exact wpAny_pyIter_revIter (z s.heap (S.YW _ _ (l1 _ _ e))) (k' _ s.heap s.toks q)
 |en i j=>
  obtain ⟨it,l,XD,n1,n2,n3,p1,p2,p3,p4⟩:=p
  obtain ⟨⟨old,q1⟩,q2⟩:=p4 s.heap fun b o e=>S.YW b o (l1 b o e)
  exact wpAny_pyIter_enum q1 (k' _ s.heap s.toks q)
 |zp els=>
  obtain ⟨fp,wr,n',Pt,St,Mid,i,⟨p1,p3,p2⟩,hm,W0,_⟩:=p
  exact(W0 G.prog G.w A hA.hd).self i s _ _ (p2 _ fun a o e=>S.YW a o (l1 a o e)) (k' _ s.heap s.toks q)
 |_=>cases hs
def Y6 (i:Int):Bool:=gK i.natAbs 1000000
def VO (l:Nat) (a:AV) (σ:St) (K:Nat->St->Prop):Prop:=
 match a with
 | .loc i=>opt σ.hp[i]? fun o=>(match Vc o with|true=>K σ.hp.length {σ with hp:=σ.hp++ [.lit i 0]}|false=>ok (RZ o) (K i σ))
 | .d x=>(match x with
  | .str x=>K σ.hp.length {σ with hp:=σ.hp++ [.it false (Vt x)]}
  | .tup t=>K σ.hp.length {σ with hp:=σ.hp++ [.it true (t.map .d)]}
  |_=>False)
 | .K4 a b c=>Wc l (match Y6 a with|true=>Y6 b|false=>false) σ fun σ=>(match decide (c=1) with
  |true=>K σ.hp.length {σ with hp:=σ.hp++ [.it false (ZI a (b - a).toNat)]}
  |false=>ok (decide (c= -1)) (K σ.hp.length {σ with hp:=σ.hp++ [.it false (Yp a (a - b).toNat)]}))
 |_=>False
theorem XC {l:Nat}{a:AV}{K:Nat->St->Prop}(h:VO l a σ K):Q9 G n RV fM a σ (fun b σ=>∃k,b= .loc k/\K k σ) X:=fun L fs ω u ru=>by
 cases a with
 |loc i=>
  obtain ⟨o,hi,h⟩:=Z3 h
  cases hl:Vc o with
  |true=>rw[hl] at h;exact A5 hi hl ru ⟨_,rfl,h⟩
  |false=>
   rw[hl] at h
   obtain ⟨hs,h⟩:=ZS h
   obtain ⟨I,e,rfl⟩:=id ru
   exact fun A h' hA R=>LO hi hs ru hA R (R.here (RR:=RV) ru ⟨_,rfl,h⟩)
 |d x=>cases x with
  |str=>exact xF ru ⟨_,rfl,h⟩
  |tup=>exact xE ru ⟨_,rfl,h⟩
  |_=>exact gV h
 |K4 a b c=>
  obtain ⟨hc,os,h2⟩:=Nb h
  have hz:a.natAbs<=1000000/\b.natAbs<=1000000:=(U6 hc).imp gp gp
  cases e:decide (c=1) with
  |true=>
   rw[e] at h2
   obtain rfl:=of_decide_eq_true e
   exact qI (σ:={σ with os:=os}) hz ru ⟨_,rfl,h2⟩
  |false=>
   rw[e] at h2
   obtain ⟨e,h2⟩:=ZS h2
   obtain rfl:=of_decide_eq_true e
   exact A4 (σ:={σ with os:=os}) hz ru ⟨_,rfl,h2⟩
 |_=>exact gV h
def isName (e:Expr):Bool:=gZ e.ctorIdx 23
theorem RY {t:Expr}{it v:h_}(h:isName t=true):bV t it v=pure ():=by cases t<;>first|rfl|cases h
def EB (k:Nat) (tup:Bool) (σ:St) (Kd:St->Prop) (Ka:AV->St->Prop):List AV->Prop
 | []=>Kd {σ with hp:=σ.hp.set k .gone}
 |e::r=>Ka e {σ with hp:=σ.hp.set k (.it tup r)}
def kg (k:Nat) (t:Expr) (σ:St) (Kd:St->Prop) (Ka:AV->St->Prop):AO->Prop
 | .lit i j=>opt σ.hp[i]? fun o=>ok (Vc o) (match fZ j (Za o) with
  |true=>Ka (YF o j) {σ with hp:=σ.hp.set k (.lit i (j+1))}
  |false=>Kd {σ with hp:=σ.hp.set k .gone})
 | .Vm i j=>ok (isName t) (match j with
  |0=>Kd {σ with hp:=σ.hp.set k .gone}
  |j+1=>opt σ.hp[i]? fun o=>ok (Vc o) (ok (fZ j (Za o)) (Ka (YF o j) {σ with hp:=σ.hp.set k (.Vm i j)})))
 | .it tup els=>ok (match isName t with|true=>true|false=>tup) (EB k tup σ Kd Ka els)
 |_=>False
def zf (k:Nat) (t:Expr) (σ:St) (Kd:St->Prop) (Ka:AV->St->Prop):Prop:=opt σ.hp[k]? (kg k t σ Kd Ka)
def JL (G:Gm) (n:Nat) (k:Nat) (t:Expr) (σ:St) (Kd:St->Prop) (Ka:AV->St->Prop):Prop:=
 ∀{{L:Addr}} {{fs:Frs}} {{ω:Wd}} {{I:Addr}},RV ω (.loc k) (.ref I)->∀{{A:gY}} {{h:Heap}},Wu n A L fs->Rel G L ω σ fs h->
  W G.prog G.w A (pyNext (.ref I)) (fun r ZU=>match r with
   |none=>PG G RU L fs ω (fun _=>Kd) () ZU
   |some v=>PG G RV L fs ω Ka v ZU/\∀{{Q:Unit->Heap->Prop}} {{X':h_->Heap->Prop}},Q () ZU->W G.prog G.w A (bV t (.ref I) v) Q X' ZU) (fun _ _=>False) h
theorem SS.turned {hS h h':Heap}{B:Part}{L:Addr}{m:Str->Option h_}{P P':Part->Prop}{R:List (Part->Prop)}{a:Addr}(S:SS hS B L m (P::R) h) (hP:∀V,P V->V a≠none) (hk:∀b o,b≠a->h.get? b=some o->h'.get? b=some o) (V':Part) (h1:∀b,V' b≠none->b=a) (h2:∀b o,V' b=some o->h'.get? b=some o) (p:P' V'):SS hS B L m (P'::R) h':=by
 obtain ⟨V,S,V1,V2,d,l1,l2,q,r⟩:=S
 have ha:=hP _ q
 exact SS.O0 S d l1 l2 r (fun b o hb e=>hk b o (fun e'=>ha (e'▸hb)) e) V' (fun b hb=>(h1 b hb)▸ha) h2 p
section
variable {k:Nat}{I:Addr}{o o':AO}{ob:Obj}{h h':Heap}{L:Addr}{fs:Frs}{ω:Wd}
theorem PF (R:Rel G L ω σ fs h) (hk:σ.hp[k]?=some o) (rI:RV ω (.loc k) (.ref I)) (foot:∀V,Y3 ω.ρ ω.B I o V->V I≠none) (hb:∀b o,b≠I->h.get? b=some o->h'.get? b=some o):Rel G L ω {σ with hp:=σ.hp.set k .gone} fs h':=by
 obtain ⟨a,m,rest,e,S,back⟩:=R.at hk rI
 cases e
 exact back .gone h' (S.turned foot hb (fun _=>none) (fun b q=>absurd rfl q) (fun b o e=>nomatch e) trivial)
theorem M3 (R:Rel G L ω σ fs h) (hk:σ.hp[k]?=some o) (rI:RV ω (.loc k) (.ref I)) (foot:∀V,Y3 ω.ρ ω.B I o V->V I≠none) (hb:∀b o,b≠I->h.get? b=some o->h'.get? b=some o) (e':h'.get? I=some ob) (p:∀V:Part,V I=some ob->Y3 ω.ρ ω.B I o' V):Rel G L ω {σ with hp:=σ.hp.set k o'} fs h':=by
 obtain ⟨a,m,rest,e,S,back⟩:=R.at hk rI
 cases e
 refine back o' h' (S.turned foot hb (upd (fun _=>none) I (some ob)) (fun b q=> ?_) (fun b o e=> ?_) (p _ (Z6 _ _ _)))
 ·exact Decidable.byContradiction fun z=>q (Z2 z)
 ·by_cases z:b=I
  ·subst z;rw[Z6] at e;cases e;exact e'
  ·rw[Z2 z] at e;cases e
theorem So.YW {P:Heap->Addr->Prop}{i:Nat}{m:Str->Option h_}{rest:List (Part->Prop)}(S:SS G.hS ω.B L m (So ω.ρ I i P::rest) h):∃l,P h l/\ω.ρ[i]?=some l/\l≠I:=by
 obtain ⟨V,S,V1,V2,d,l1,l2,⟨o,l,e,x,y,z⟩,r⟩:=S
 exact⟨l,z h (S.YW _ _ (l1 _ _ e)),x,y⟩
theorem So.foot {P:Heap->Addr->Prop}{i:Nat}{V:Part}(x:So ω.ρ I i P V):V I≠none:=fun q=>by obtain ⟨o,l,e,_⟩:=x;rw[e] at q;cases q
inductive LR (h:Heap) (l:Addr) (o:AO) (ω:Wd):Prop
 |mk (vs:List h_) (a:h.IsList l vs.toArray) (n:vs.length=Za o) (g:∀j,fZ j (Za o)=true->∃v,vs.toArray[j]?=some v/\RV ω (YF o j) v)
theorem Rel.nD {i:Nat}{l:Addr}(R:Rel G L ω σ fs h) (hi:σ.hp[i]?=some o) (hl:Vc o=true) (XD:ω.ρ[i]?=some l):LR h l o ω:=by
 obtain ⟨l',hl'⟩:=Xx hl
 obtain ⟨l2,m2,QD,vs,e2,rs,S2,_,_⟩:=R.lst hi hl' ⟨l,XD,rfl⟩
 cases e2
 obtain ⟨nn,ge⟩:=S2.YF
 refine⟨vs,⟨_,ge,rfl,nn,rfl⟩,by rw[ZT.length rs,YZ hl'],fun j hj=> ?_⟩
 rw[cZ]
 exact ZT.I2 hl' rs (by rw[<-YZ hl'];exact gk.mp hj)
end
section
variable {k i j:Nat}{t:Expr}{Kd:St->Prop}{Ka:AV->St->Prop}{o:AO}
theorem A3 (hk:σ.hp[k]?=some (.lit i j)) (hi:σ.hp[i]?=some o) (hl:Vc o=true) (h:match fZ j (Za o) with
  |true=>Ka (YF o j) {σ with hp:=σ.hp.set k (.lit i (j+1))}
  |false=>Kd {σ with hp:=σ.hp.set k .gone}):JL G n k t σ Kd Ka:=fun L fs ω I rI A h₀ hA R=>by
 obtain ⟨a,m,rest,e,S,_⟩:=R.at hk rI
 cases e
 obtain ⟨l,hit,XD,hne⟩:=So.YW S
 obtain ⟨vs,hL,hn,g⟩:=R.nD hi hl XD
 intro s Q' E hs k' kx
 subst hs
 cases hj:fZ j (Za o) with
 |true=>
  rw[hj] at h
  obtain ⟨v,ev,rv⟩:=g j hj
  refine wpAny_pyNext_list_item hit hL ev fun h' EA hb=>k' _ h' s.toks ?_
  obtain ⟨o',e',c',d'⟩:=id EA
  refine⟨(M3 (o':= .lit i (j+1)) R hk rI (fun V x=>x.foot) (fun b o hb' e=>(hb.2 b hb').trans e) e' fun V e=>⟨o',l,e,XD,hne,fun h'' xD=>⟨o',xD,c',d'⟩⟩).here rv h,fun Q3 X3 q3 s2 Q2 E2 hs2 k2 qH=> ?_⟩
  subst hs2
  exact letGo_listiter EA (k2 _ s2.heap s2.toks q3)
 |false=>
  rw[hj] at h
  refine wpAny_pyNext_list_end hA.hd hit hL (Array.getElem?_eq_none (by rw[gM,hn];exact Nat.le_of_not_lt fun q=>by rw[gk.mpr q] at hj;cases hj)) fun h' hk'=>k' _ h' s.toks ?_
  exact⟨(),_,ω,h,.rfl,PF R hk rI (fun V x=>x.foot) hk',trivial⟩
theorem Ez (hk:σ.hp[k]?=some (.Vm i 0)) (h:Kd {σ with hp:=σ.hp.set k .gone}):JL G n k t σ Kd Ka:=fun L fs ω I rI A h₀ hA R=>by
 obtain ⟨a,m,rest,e,S,_⟩:=R.at hk rI
 cases e
 obtain ⟨l,hit,_⟩:=So.YW S
 intro s Q' E hs k' kx
 subst hs
 exact wpAny_pyNext_rev_end hA.hd hit fun h' hk'=>k' _ h' s.toks ⟨(),_,ω,h,.rfl,PF R hk rI (fun V x=>x.foot) hk',trivial⟩
theorem A2 (hN:isName t=true) (hk:σ.hp[k]?=some (.Vm i (j+1))) (hi:σ.hp[i]?=some o) (hl:Vc o=true) (hj:fZ j (Za o)=true) (h:Ka (YF o j) {σ with hp:=σ.hp.set k (.Vm i j)}):JL G n k t σ Kd Ka:=fun L fs ω I rI A h₀ hA R=>by
 obtain ⟨a,m,rest,e,S,_⟩:=R.at hk rI
 cases e
 obtain ⟨l,hit,XD,hne⟩:=So.YW S
 obtain ⟨vs,hL,hn,g⟩:=R.nD hi hl XD
 obtain ⟨v,ev,rv⟩:=g j hj
 intro s Q' E hs k' kx
 subst hs
 have hit:s.heap.IsRevIter I l (j:Int):=by rw[show (j:Int)=((j+1:Nat):Int)- 1 by omega];exact hit
 refine wpAny_pyNext_rev_item hit hL ev fun h' EA hb=>k' _ h' s.toks ?_
 obtain ⟨o',e',c',d'⟩:=id EA
 refine⟨(M3 (o':= .Vm i j) R hk rI (fun V x=>x.foot) (fun b o hb' e=>(hb.2 b hb').trans e) e' fun V e=>⟨o',l,e,XD,hne,fun h'' xD=>⟨o',xD,c',d'⟩⟩).here rv h,fun Q3 X3 q3=> ?_⟩
 rw[RY hN];exact W.pure q3
theorem rG.foot {ρ:List Addr}{B V:Part}{a:Addr}{b:Bool}{l:List AV}(x:rG ρ B a b l V):V a≠none:=fun q=>by obtain ⟨o,_,_,_,_,_,e,_⟩:=x;rw[e] at q;cases q
theorem xB {tup:Bool}{els:List AV}(ht:(match isName t with|true=>true|false=>tup)=true) (hk:σ.hp[k]?=some (.it tup els)) (h:EB k tup σ Kd Ka els):JL G n k t σ Kd Ka:=fun L fs ω I rI A h₀ hA R=>by
 obtain ⟨a,m,rest,e0,⟨V,S,V1,V2,d,l1,l2,⟨o,fp,nn,P,S0,i,e,hm,W0,hB,st,ex,hn,lg,el⟩,r⟩,_⟩:=R.at hk rI
 cases e0
 have st:=st h₀ (S.YW _ _ (l1 _ _ e)) fun b ob e=>S.keep _ _ e
 have Wk:=W0 G.prog G.w A hA.hd
 have in1:∀{b:Addr},b≠I->b∉ [I]:=fun q z=>q (fK.mp z)
 intro s Q' E hs k' kx
 subst hs
 cases els with
 |nil=>
  obtain rfl:i=nn:=hn
  exact Wk.done s _ _ st fun h' tk hk'=>k' _ h' tk ⟨(),_,ω,h,.rfl,PF R hk rI (fun V x=>x.foot) fun b o q=>hk' b o (in1 q),trivial⟩
 |cons e1 r1=>
  have hi:i+r1.length+1=nn:=hn
  refine Wk.item i s _ _ (by omega) st fun v h' tk hp st' hk'=>k' _ h' tk ?_
  obtain ⟨o',e'⟩:=ex _ _ st'
  have Vd:=S.keep
  refine⟨(M3 (o':= .it tup r1) R hk rI (fun V x=>x.foot) (fun b o q=>hk' b o (in1 q)) e' fun V xD=>⟨o',fp,nn,P,S0,i+1,xD,hm,W0,hB,fun h'' g kB=>Wk.frame _ _ _ st' fun b hb ob eb=> ?_,ex,by omega,lg,fun j v e1 q p=>el (j+1) v e1 q (by rw[show i+(j+1)=i+1+j by omega];exact p)⟩).here (el 0 v e1 rfl hp) h,fun Q3 X3 q3=> ?_⟩
  ·by_cases q:b=I
   ·subst q;rw[e'] at eb;cases eb;exact g
   ·obtain ⟨j_,nA⟩:=hB b hb q
    rw[hk' b j_ (in1 q) (Vd _ _ nA)] at eb;cases eb;exact kB _ _ nA
  ·cases hN:isName t with
   |true=>rw[RY hN];exact W.pure q3
   |false=>
    rw[hN] at ht
    intro s2 Q2 E2 hs2 k2 qH
    subst hs2
    exact lg ht _ _ _ _ _ _ _ _ _ st' (k2 _ s2.heap s2.toks q3)
theorem RX (h:zf k t σ Kd Ka):JL G n k t σ Kd Ka:=by
 obtain ⟨o,hk,h⟩:=Z3 h
 cases o with
 |lit i j=>
  obtain ⟨o,hi,h⟩:=Z3 h
  obtain ⟨hl,h⟩:=ZS h
  exact A3 hk hi hl h
 |Vm i j=>
  obtain ⟨hN,h⟩:=ZS h
  cases j with
  |zero=>exact Ez hk h
  |succ j=>
   obtain ⟨o,hi,h⟩:=Z3 h
   obtain ⟨hl,h⟩:=ZS h
   obtain ⟨hj,h⟩:=ZS h
   exact A2 hN hk hi hl hj h
 |it tup els=>
  obtain ⟨ht,h⟩:=ZS h
  exact xB ht hk h
 |_=>exact gV h
theorem Iw {tup:Bool}{els:List AV}(hk:σ.hp[k]?=some (.it tup els)) (ht:(match isName t with|true=>true|false=>tup)=true) (g:EB k tup σ Kd Ka els):zf k t σ Kd Ka:=Sg hk (CZ ht g)
theorem LN {Kb:AV->St->Prop}(h:zf k t σ Kd Ka) (i:∀a σ,Ka a σ->Kb a σ):zf k t σ Kd Kb:=by
 refine opt.imp (fun o h=> ?_) h
 cases o with
 |lit p j=>exact opt.imp (fun o=>ok.imp fun h=>by cases q:fZ j (Za o)<;>rw[q] at h;exact h;exact i _ _ h) h
 |Vm p j=>exact ok.imp (fun h=>by cases j;exact h;exact opt.imp (fun o=>ok.imp (ok.imp (i _ _))) h) h
 |it tup els=>exact ok.imp (fun h=>by cases els;exact h;exact i _ _ h) h
 |_=>exact h
end
theorem JL.na {k:Nat}{t:Expr}{Kd Kn:St->Prop}(x:JL G n k t σ Kd fun a Z4=>Rg G n Φ t a Z4 Kn Zn):xG G n Φ k t σ Kd Kn:=fun env ω fs I he rI A h hA R=>
 (x rI hA R).mono (fun r ZU y=>by
  cases r with
  |none=>exact y
  |some v=>
   obtain ⟨⟨a,Z4,ZR,k₁,ZX,ZK,Zx⟩,g⟩:=y
   exact g ((k₁ (he.up ZX) Zx hA ZK).mono (fun _ _ p=>p.up ZX) fun _ _ y=>y.no)) fun _ _ y=>y
theorem Xl {fp:List Addr}{h:Heap}{b:Addr}(q:WS fp h b≠none):b∈fp:=by
 unfold WS at q;split at q
 ·assumption
 ·exact absurd rfl q
theorem VN {fp:List Addr}{h:Heap}{b:Addr}{o:Obj}(q:WS fp h b=some o):h.get? b=some o:=by
 unfold WS at q;split at q
 ·exact q
 ·cases q
theorem Yc {fp:List Addr}{h:Heap}{b:Addr}(q:b∈fp):WS fp h b=h.get? b:=by unfold WS;rw[if_pos q]
theorem xA {k:Nat}{ts:List Expr}{x:Nat}{pos:Pos}{els:List (AV×AV)}{Kd Kn:St->Prop}(hk:σ.hp[k]?=some (.zp els)) (hs:ts.any ZD=false) (hl:ts.length=2)
  (g:match els with| []=>Kd {σ with hp:=σ.hp.set k .gone}|e::r=>IB G n Φ ts [e.1,e.2] {σ with hp:=σ.hp.set k (.zp r)} Kn Zn):xG G n Φ k (.Tuple ts x pos) σ Kd Kn:=fun env ω fs I he rI A h₀ hA R=>by
 obtain ⟨a,m,rest,e,S,back⟩:=R.at hk rI
 cases e
 obtain ⟨V,S,V1,V2,d,l1,l2,⟨fp,wr,n',Pt,St,Mid,i,⟨p1,p3,p2⟩,hm,W0,ex,hn,hv⟩,r⟩:=S
 have K:=W0 G.prog G.w A hA.hd
 have CU:St i h₀:=p2 _ fun a o e=>S.YW a o (l1 a o e)
 intro s Q' E hs' k' kx
 subst hs'
 have off:∀a:Addr,V1 a=none->a∉wr:=fun a hn hw=>p1 a (K.sub a hw) hn
 cases els with
 |nil=>
  have:i=n':=by simpa using hn
  subst this
  refine K.done s _ _ CU fun h' tk hk'=>k' _ h' tk ?_
  exact⟨(),_,ω,g,.rfl,back .gone h' (SS.O0 S d l1 l2 r (fun a o hn e=>hk' a o (off a hn) e) (fun _=>none) (fun b q=>absurd rfl q) (fun b o e=>nomatch e) trivial),trivial⟩
 |cons e r'=>
  have hi:i<n':=by rw[<-hn,fR];omega
  refine K.item i s _ _ hi CU fun T vals ZU OX hP hT hM Sl=>k' _ ZU OX ?_
  intro s2 Q2 E2 hs2 k2 qH
  subst hs2
  refine K.go ts x pos i T s2 _ _ hM fun ZO st Tt=>k2 () ZO s2.toks ?_
  have hkk:∀a o,a∉wr->s.heap.get? a=some o->ZO.get? a=some o:=fun a o hw e=>Tt a o hw (Sl a o hw e)
  have Zg:Rel G env.locals ω {σ with hp:=σ.hp.set k (.zp r')} fs ZO:=back (.zp r') ZO (SS.O0 S d l1 l2 r (fun a o hn e=>hkk a o (off a hn) e) (WS fp ZO) (fun a ha=>p1 a (Xl ha)) (fun a o e=>VN e)
   ⟨fp,wr,n',Pt,St,Mid,i+1,⟨fun b hb=>by obtain ⟨o,ho⟩:=ex _ _ st b hb;rw[Yc hb,ho];exact fun z=>(nomatch z),fun b hb=>Xl hb,fun h'' hh=>K.frame _ _ _ st fun b hb o e=>hh b o (by rw[Yc hb];exact e)⟩,hm,W0,ex,
    by rw[<-hn,fR];omega,fun j vals e1 q p=>hv (j+1) vals e1 (by simpa using q) (by rw[show i+(j+1)=i+1+j by omega];exact p)⟩)
  have rv:Xn ω [e.1,e.2] vals.toList:=hv 0 vals e rfl hP
  have Iv:IsTup ZO T vals:=by
   obtain ⟨o,e,c,nn,dd⟩:=hT
   exact⟨o,Tt T o (K.apart _ _ _ hM) e,c,nn,dd⟩
  intro s3 Q3 E3 qG k3 j0
  subst qG
  obtain ⟨h1,h2⟩:=XW (env:=env) hs
  refine assign_Tuple_tuple hA.hd Iv (by rw[h1,hl,<-dJ,ZT.length rv];rfl) h2 fun X8 Iu=> ?_
  exact(g he rv hA (Zg.keeps fun a o e=>Iu a o (f_ (gJ e)) e)).go k3 fun _ _ _ y=>y.no
theorem xy {k:Nat}{ts:List Expr}{x:Nat}{pos:Pos}{i j:Nat}{o:AO}{l:List AV}{Kd Kn:St->Prop}(hk:σ.hp[k]?=some (.en i j)) (hi:σ.hp[i]?=some o) (hl:ZC o=some l) (hs:ts.any ZD=false) (hlen:ts.length=2) (hj:j<=Za o)
  (g:(Za o<=j->Kd {σ with hp:=σ.hp.set k .gone})/\(j<Za o->IB G n Φ ts [.d (.int j),YF o j] {σ with hp:=σ.hp.set k (.en i (j+1))} Kn Zn)):xG G n Φ k (.Tuple ts x pos) σ Kd Kn:=fun env ω fs I he rI A h₀ hA R=>by
 obtain ⟨a,m,rest,e,S,back⟩:=R.at hk rI
 cases e
 obtain ⟨V,S,V1,V2,d,l1,l2,⟨it,L,XD,n1,n2,n3,p1,p2,p3,p4⟩,r⟩:=S
 have rl:RV ω (.loc i) (.ref L):=⟨L,XD,rfl⟩
 obtain ⟨L',m2,QD,vs,e2,rs,S2,_,_⟩:=R.lst hi hl rl
 cases e2
 obtain ⟨nn,ge⟩:=S2.YF
 have hL:h₀.IsList L vs.toArray:=⟨_,ge,rfl,nn,rfl⟩
 have hvl:vs.length=Za o:=by rw[ZT.length rs,YZ hl]
 have K:=(WalksT.enumerate (prog:=G.prog) (w:=G.w) (A:=A) hA.hd I it L n1 n2 n3 vs.toArray).toU
 obtain ⟨q1,q2⟩:=p4 h₀ fun b o e=>S.YW b o (l1 b o e)
 intro s Q' E hs' k' kx
 subst hs'
 have off:∀a:Addr,V1 a=none->a∉ [I,it]:=fun a hn hw=>by
  simp only[gy,List.not_mem_nil,or_false] at hw
  rcases hw with q|q
  ·exact p1 (q▸hn)
  ·exact p2 (q▸hn)
 by_cases hlt:j<Za o
 ·refine K.item j s _ _ (by rw[gM,hvl];exact hlt) ⟨q1,q2,hL⟩ fun T vals ZU OX hP hT hM Sl=>k' _ ZU OX ?_
  intro s2 Q2 E2 hs2 k2 qH
  subst hs2
  refine K.go ts x pos j T s2 _ _ hM fun ZO st Tt=>k2 () ZO s2.toks ?_
  have hkk:∀a o,a∉ [I,it]->s.heap.get? a=some o->ZO.get? a=some o:=fun a o hw e=>Tt a o hw (Sl a o hw e)
  obtain ⟨⟨old,g1⟩,⟨og,g2,g3⟩,g4⟩:=id st
  have Zg:Rel G env.locals ω {σ with hp:=σ.hp.set k (.en i (j+1))} fs ZO:=back (.en i (j+1)) ZO (SS.O0 S d l1 l2 r (fun a o hn e=>hkk a o (off a hn) e) (WS [I,it] ZO) (fun a ha=>by
    have:=Xl ha
    simp only[gy,List.not_mem_nil,or_false] at this
    rcases this with q|q
    ·rw[q];exact p1
    ·rw[q];exact p2) (fun a o e=>VN e)
   ⟨it,L,XD,n1,n2,n3,by rw[Yc (.head _),g1];exact fun z=>(nomatch z),by rw[Yc (.tail _ (.head _)),g2];exact fun z=>(nomatch z),fun b hb=>by simpa using Xl hb,fun h'' hh=>by
    exact⟨⟨old,hh _ _ (by rw[Yc (.head _)];exact g1)⟩,⟨og,hh _ _ (by rw[Yc (.tail _ (.head _))];exact g2),g3⟩⟩⟩)
  obtain ⟨t,v,hv,rfl⟩:=hP
  obtain ⟨v',ev,qS⟩:=ZT.I2 hl rs (i:=j) (by rw[<-YZ hl];exact hlt)
  obtain rfl:v'=v:=by rw[cZ,ev] at hv;exact gj hv
  have rv:Xn ω [.d (.int j),YF o j] [.int j t,v']:=ZT.cons NB (ZT.cons qS .nil)
  have Iv:IsTup ZO T #[.int j t,v']:=by
   obtain ⟨o,e,c,nn,dd⟩:=hT
   exact⟨o,Tt T o (K.apart _ _ _ hM) e,c,nn,dd⟩
  intro s3 Q3 E3 qG k3 j0
  subst qG
  obtain ⟨h1,h2⟩:=XW (env:=env) hs
  refine assign_Tuple_tuple hA.hd Iv (by rw[h1,hlen];rfl) h2 fun X8 Iu=> ?_
  exact(g.2 hlt he rv hA (Zg.keeps fun a o e=>Iu a o (f_ (gJ e)) e)).go k3 fun _ _ _ y=>y.no
 ·have ej:j=vs.toArray.size:=by rw[gM,hvl];omega
  refine K.done s _ _ (ej▸⟨q1,q2,hL⟩) fun h' tk hk'=>k' _ h' tk ?_
  exact⟨(),_,ω,g.1 (by omega),.rfl,back .gone h' (SS.O0 S d l1 l2 r (fun a o hn e=>hk' a o (off a hn) e) (fun _=>none) (fun b q=>absurd rfl q) (fun b o e=>nomatch e) trivial),trivial⟩
end
def Yv (cells:List (Str×Addr)):List (Str×gr)->List (Str×Addr)->List (Str×Addr)
 | [],acc=>acc
 |(x,k)::r,acc=>match k with| .free=>Yv cells r ((x,(cells.lookup x).getD 0)::acc)|_=>Yv cells r acc
theorem Vb {scope:gQ}{env:Env}(h:∀x,(x,gr.free)∈scope.names->(env.cells.lookup x).isSome=true):closureFor scope env=pure (Yv env.cells scope.names []):=by
 unfold closureFor
 have key:∀(names:List (Str×gr)) (acc:List (Str×Addr)),(∀x,(x,gr.free)∈names->(env.cells.lookup x).isSome=true)->
   (forIn names acc (fun(p:Str×gr) (cs:List (Str×Addr))=>match p with
    |(name,kind)=>if (kind== .free)=true then do let __do_lift<-cellOf env name;pure (ForInStep.yield ((name,__do_lift)::cs)) else pure (ForInStep.yield cs)):Sem (List (Str×Addr)))=pure (Yv env.cells names acc):=by
  intro names
  induction names with
  |nil=>intro acc _;rfl
  |cons p r ih=>
   intro acc hh
   obtain ⟨x,k⟩:=p
   rw[aZ]
   have hr:=fun y hy=>hh y (aB _ hy)
   cases k with
   |free=>
    have hx:=hh x (.head _)
    obtain ⟨c,hc⟩:=bM.mp hx
    have e:cellOf env x=pure c:=by unfold cellOf;rw[hc]
    simp only[beq_self_eq_true,if_true,e,pure_bind]
    rw[ih _ hr]
    show pure (Yv env.cells r ((x,c)::acc))=pure (Yv env.cells r ((x,(env.cells.lookup x).getD 0)::acc))
    rw[hc];rfl
   |_=>exact ih _ hr
 have:=key scope.names [] h
 exact(congrArg (fun t=>t>>=fun cs=>pure cs) this).trans (by simp)
def XU:List (Str×gr)->List Str| []=> []|(x,k)::r=>match k with| .free=>x::XU r|_=>XU r
theorem Ui {x:Str}:∀{l:List (Str×gr)},(x,gr.free)∈l->x∈XU l
 |(y,k)::r,h=>by
  rcases gy.mp h with e|h
  ·cases e;exact .head _
  ·have ih:=Ui h
   cases k with
   |free=>exact .tail _ ih
   |_=>exact ih
theorem WO {cells:List (Str×Addr)}{x:Str}{c:Addr}(hc:cells.lookup x=some c):∀{l:List (Str×gr)}{acc:List (Str×Addr)},(x∈XU l\/acc.lookup x=some c)->(Yv cells l acc).lookup x=some c
 | [],acc,h=>by rcases h with h|h;cases h;exact h
 |(y,k)::r,acc,h=>by
  unfold Yv
  cases k with
  |free=>
   refine WO hc ?_
   rw[dD]
   by_cases q:x=y
   ·subst q;right;simp[hc]
   ·have:(x==y)=false:=by simpa using q
    rcases h with h|h
    ·unfold XU at h
     rcases gy.mp h with e|h
     ·exact absurd e q
     ·exact .inl h
    ·right;rw[this];exact h
  |_=>
   refine WO hc ?_
   rcases h with h|h
   ·exact .inl h
   ·exact .inr h
def RW (cm:List (Str×Nat)):List Str->List (Str×Nat)| []=> []|x::r=>match lk cm x with|some i=>(x,i)::RW cm r|none=>RW cm r
theorem Uh {cm:List (Str×Nat)}{x:Str}{i:Nat}:∀{l:List Str},lk (RW cm l) x=some i->x∈l/\lk cm x=some i
 | [],h=>by cases h
 |y::r,h=>by
  unfold RW at h
  cases q:lk cm y with
  |none=>rw[q] at h;obtain ⟨a,b⟩:=Uh h;exact⟨.tail _ a,b⟩
  |some j=>
   rw[q] at h
   unfold lk at h
   cases e:sq y x with
   |true=>rw[e] at h;cases h;have:=Zv.mp e;subst this;exact⟨.head _,q⟩
   |false=>rw[e] at h;obtain ⟨a,b⟩:=Uh h;exact⟨.tail _ a,b⟩
def Ir (names:List (Str×gr)):List (Str×gr)->List (Str×gr)
 | []=> []
 |(x,k)::r=>(match k with| .free=>(match lk names x with|some .cell=>(x,.cell)|_=>(x,.free))|k=>(x,k))::Ir names r
theorem Kv {names:List (Str×gr)}{x:Str}{k:gr}{r:List (Str×gr)}:Ir names ((x,k)::r)=(match k with| .free=>(match lk names x with|some .cell=>(x,.cell)|_=>(x,.free))|k=>(x,k))::Ir names r:=rfl
def WN (Φ:Fm) (sc:gQ):Fm:=⟨{sc with names:=Ir Φ.sc.names sc.names},RW Φ.cm (XU sc.names),none⟩
theorem Iq {k:Option gr}:(k==some .cell)=(match k with|some .cell=>true|_=>false):=by
 cases k with
 |none=>rfl
 |some k=>cases k<;>rfl
theorem M2 {Φ:Fm}{env:Env}{ρ:List Addr}(he:Zb Φ env ρ) (sc:gQ):relabel sc env=(WN Φ sc).sc:=by
 unfold relabel WN
 have:∀l:List (Str×gr),(l.map fun(n,k)=>if (k== .free && env.scope.kind== .function && env.kindOf n==some .cell) then (n,.cell) else (n,k))=Ir Φ.sc.names l:=by
  intro l
  induction l with
  |nil=>rfl
  |cons p r ih=>
   obtain ⟨x,k⟩:=p
   rw[gb,ih,Kv]
   congr 1
   show (if (k== .free && env.scope.kind== .function && env.kindOf x==some .cell)=true then (x,.cell) else (x,k))=_
   rw[he.kd,he.kindOf,Iq]
   cases k<;>first|rfl|skip
   generalize lk Φ.sc.names x=kk
   cases kk with
   |none=>rfl
   |some kk=>cases kk<;>rfl
 rw[this]
def WV (Φ:Fm) (sc:gQ):Bool:=(XU sc.names).all fun x=>(lk Φ.cm x).isSome
def RT (sc:gQ) (x:Str):Bool:=(match sc.kind with| .function=>true|_=>false) && (match lk sc.names x with|some .local=>true|_=>false) && (sc.names.all fun y=>match y.2 with| .cell=>false| .local=>(match lk sc.names y.1 with|some .local=>true|_=>false)|_=>true)
section
variable {G:Gm}{n:Nat}{Φ:Fm}{σ Z4 ZW Zq ZH:St}{X:XK}
theorem M1 {env:Env}{ρ:List Addr}{sc:gQ}{C:Addr}(he:Zb Φ env ρ) (hk:sc.kind= .function):Zb (WN Φ sc) (compEnvC sc (Yv env.cells sc.names []) C env) ρ:=
 ⟨M2 he sc,hk,he.gl,he.bl,fun x i h=>by
  obtain ⟨a,b⟩:=Uh h
  obtain ⟨c,e1,e2⟩:=he.cells x i b
  exact⟨c,WO e1 (.inl a),e2⟩,fun c q e=>by cases e⟩
def A1 (G:Gm) (n:Nat) (Φ:Fm) (ifs:List Expr) (σ:St) (K:Bool->St->Prop):Prop:=match ifs with| []=>K true σ| [c]=>V5 G n Φ c σ K Zn|_=>False
theorem SS.YQ {hS h:Heap}{B:Part}{L:Addr}{m:Str->Option h_}{cs:List (Part->Prop)}(S:SS hS B L m cs h):h.Ns L m:=let ⟨_,S,_⟩:=S;S.loc
def Ip (G:Gm) (n:Nat) (Φ:Fm) (k:Nat) (x:Str) (px:Pos) (ifs:List Expr) (elt:Expr) (ka:Nat) (Inv:Nat->St->Prop) (Kd:St->Prop):Prop:=
 ∀c σ,Inv c σ->JL G n k (.Name x px) σ Kd fun a ZH=>A1 G n Φ ifs {ZH with loc:=Mine.put ZH.loc x a} fun b Tc=>match b with
  |false=>∃c',c'<c/\Inv c' Tc
  |true=>Zd G n Φ elt Tc (fun e σ3=>Ve G n (.bi .Yi) [.loc ka,e] σ3 (fun _ FZ=>∃c',c'<c/\Inv c' FZ) Zn) Zn
inductive A0 (G:Gm) (n:Nat) (Φ:Fm) (x:Str) (px:Pos) (ifs:List Expr) (elt:Expr) (Kd:St->St->Prop) (b:AV) (ZW:St):Prop
 |mk (k:Nat) (o:AO) (e:b= .loc k) (hk:ZW.hp[k]?=some o) (hs:RZ o=true) (Inv:Nat->St->Prop) (c:Nat) (h0:Inv c ⟨[],ZW.hp++ [.Z_ []],ZW.os⟩) (turn:Ip G n Φ k x px ifs elt ZW.hp.length Inv (Kd ZW))
theorem Ku {sc:gQ}{x:Str}(h:RT sc x=true):sc.kind= .function:=by
 have h:=(g6.mp (g6.mp h).1).1
 cases q:sc.kind<;>rw[q] at h<;>first|rfl|cases h
theorem OF {o:Option gr}(h:(match o with|some .local=>true|_=>false)=true):o=some .local:=by
 cases o with
 |none=>cases h
 |some k=>cases k<;>first|rfl|cases h
theorem AZ {sc:gQ}{x:Str}(h:RT sc x=true):sc.names.lookup x=some .local:=by
 rw[Vf];exact OF (g6.mp (g6.mp h).1).2
theorem Ks {sc:gQ}{x:Str}(h:RT sc x=true):∀z∈sc.names,z.2≠ .cell:=fun z hz e=>by
 have:=gu.mp (g6.mp h).2 z hz
 rw[e] at this;cases this
theorem Io {sc:gQ}{x:Str}(h:RT sc x=true):∀z∈sc.names,z.2= .local->sc.names.lookup z.1=some .local:=fun z hz e=>by
 have:=gu.mp (g6.mp h).2 z hz
 rw[e] at this
 rw[Vf];exact OF this
theorem Ey {sc:gQ}{env:Env}{ρ:List Addr}(he:Zb Φ env ρ) (h:WV Φ sc=true):closureFor sc env=pure (Yv env.cells sc.names []):=Vb fun z hz=>by
 obtain ⟨i,hi⟩:=bM.mp (gu.mp h z (Ui hz))
 obtain ⟨c,e,_⟩:=he.cells z i hi
 rw[e];rfl
theorem Kr {tu:Fm}{x:Str}{px pos:Pos}{elt iter:Expr}{ifs:List Expr}{sc:gQ}{k ka:Nat}{I Lr:Addr}{Inv:Nat->St->Prop}{Kd:St->Prop}{c:Nat}{cenv:Env}{ω:Wd}{fs:Frs}{A:gY}{s:g7}{h:Heap}{Q:Result->g7->Prop}
  (turn:Ip G n tu k x px ifs elt ka Inv Kd) (h0:Inv c σ) (hA:Wu n A cenv.locals fs) (he:Zb tu cenv ω.ρ) (hx:cenv.kindOf x=some .local) (Yx:RV ω (.loc k) (.ref I)) (K1:RV ω (.loc ka) (.ref Lr)) (R:Rel G cenv.locals ω σ fs h)
  (fin:∀{h' tk Zw ZH},ω.le Zw->Rel G cenv.locals Zw ZH fs h'->Kd ZH->Q (.ok .next) {s with heap:=h',toks:=tk}) (tk:Nat):codeAny (gO G.prog G.w) A (.compLoop (.ListComp elt [⟨.Name x px,iter,ifs,0⟩] sc pos) 0 (.ref I) (.ref Lr) cenv) Q {s with heap:=h,toks:=tk}:=by
 refine codeAny_compLoop_tests (fun c s'=>∃h' tk ZH Zw,s'={s with heap:=h',toks:=tk}/\ω.le Zw/\Inv c ZH/\Rel G cenv.locals Zw ZH fs h') ?_ c ⟨h,tk,_,ω,rfl,.rfl,h0,R⟩ (by intro v;rfl)
 rintro c _ ⟨h',tk,ZH,Zw,rfl,l',hI,R'⟩
 refine(turn c ZH hI (Yx.up l') hA R').go (fun r Vn Iz y=> ?_) (fun _ _ _ y=>y.elim)
 cases r with
 |none=>
  obtain ⟨_,PE,U0,kd,Im,xx,_⟩:=y
  exact fin (l'.trans Im) xx kd
 |some v=>
  obtain ⟨a,PE,U0,qF,Im,⟨mC,qE,RC⟩,rv⟩:=y.1
  refine(Uu (X:=fun _ _=>False) RC.ss (Q:=fun _ h''=>SS G.hS U0.B cenv.locals (upd mC x (some v)) (parts U0.B U0.ρ U0.ρ PE.hp++frames fs) h'') (fun h'' S=>S) hx rfl he.XJ).go (fun _ XE xw AY=> ?_) (fun _ _ _ y=>y.elim)
  have Fg:Rel G cenv.locals U0 {PE with loc:=Mine.put PE.loc x a} fs XE:=⟨_,qE.put rv,RC.len,AY⟩
  have P6:=l'.trans Im
  have body:∀{Tc:St}{Nf:Wd}{O3:Heap}{Il:Nat}{E1:h_->g7->Prop},U0.le Nf->Rel G cenv.locals Nf Tc fs O3->
    Zd G n tu elt Tc (fun e σ3=>Ve G n (.bi .Yi) [.loc ka,e] σ3 (fun _ FZ=>∃c',c'<c/\Inv c' FZ) Zn) Zn->
    gW (gO G.prog G.w) A (eval elt cenv) (fun y qD=>gW (gO G.prog G.w) A (call (.builtin "list.append") [.ref Lr,y]) (fun _ qC=>∃k,k<c/\∃h' tk ZH Zw,qC={s with heap:=h',toks:=tk}/\ω.le Zw/\Inv k ZH/\Rel G cenv.locals Zw ZH fs h') E1 qD) E1 {s with heap:=O3,toks:=Il}:=by
   intro Tc Nf O3 Il E1 OV K0 kE
   refine(kE (he.up (P6.trans OV)) hA K0).go (fun ev xu ny y=> ?_) (fun _ _ _ y=>y.no)
   obtain ⟨e,nu,nt,kA,qB,qA,qz⟩:=y
   have l:=(P6.trans OV).trans qB
   refine(kA (fv:=C6 .Yi) rfl (ZT.cons (K1.up l) (ZT.cons qz .nil)) hA qA).go (fun _ MZ xr y=> ?_) (fun _ _ _ y=>y.no)
   obtain ⟨_,xq,xm,⟨c',hc,kI⟩,qy,qx,_⟩:=y
   exact⟨c',hc,_,_,xq,xm,rfl,l.trans qy,kI,qx⟩
  cases ifs with
  |nil=>
   refine wpAny_tests_nil ?_
   rw[if_pos rfl]
   exact body .rfl Fg qF
  |cons t r=>cases r with
   |cons=>exact gV qF
   |nil=>
    refine wpAny_tests_one ((show V5 G n tu t _ _ Zn from qF) (he.up P6) hA Fg|>.go (fun b O3 Il z=> ?_) (fun _ _ _ y=>y.no))
    obtain ⟨b',Mc,C4,kB,OV,K0,rb⟩:=z
    obtain rfl:b=b':=rb
    cases b with
    |true=>rw[if_pos rfl];exact body OV K0 kB
    |false=>
     rw[if_neg cB]
     obtain ⟨c',hc,kI⟩:=kB
     exact⟨c',hc,_,_,Mc,C4,rfl,P6.trans OV,kI,K0⟩
theorem Wu.inner {A:gY}{L C:Addr}{fs:Frs}{m:Str->Option h_}(hA:Wu n A L fs):Wu n A C (Nl.NC L m::fs):=⟨hA.rm,by
 obtain ⟨l,e,kk⟩:=hA.fr
 refine⟨l,e,fun env' h'=> ?_⟩
 obtain ⟨k1,k2,k3⟩:=kk env' h'
 refine⟨k1,k2,.inr ?_⟩
 rcases k3 with k3|k3
 ·rw[k3];exact .head _
 ·exact .tail _ k3⟩
theorem Qy {x:Str}{px pos pos':Pos}{elt iter:Expr}{ifs:List Expr}{sc:gQ}{Kd:St->St->Prop}(hsc:RT sc x=true) (hfr:WV Φ sc=true) (Ik:isSet iter=false)
  (y:Zd G n Φ iter σ (fun a Z4=>Q9 G n RV fM a Z4 (A0 G n (WN Φ sc) x px ifs elt Kd) X) X) {env:Env}{ω:Wd}{fs:Frs}{A:gY}{s:g7}(he:Zb Φ env ω.ρ) (hA:Wu n A env.locals fs) (R:Rel G env.locals ω σ fs s.heap)
  {use:Option (h_->Sem Unit)}{Q:h_->g7->Prop}{E:h_->g7->Prop}(kx:∀e h' tk,PG G RV env.locals fs ω X e h'->E e {s with heap:=h',toks:=tk})
  (fin:∀{ZW Zw QW m C Lr h' tk},Kd ZW QW->ω.le Zw->YS Zw ZW.loc m->RV Zw (.loc ZW.hp.length) (.ref Lr)->Rel G C Zw QW (Nl.NC env.locals m::fs) h'->compPost (gO G.prog G.w) A E use Q (.ref Lr) C (.ok .next) {s with heap:=h',toks:=tk}):
  gW (gO G.prog G.w) A (comprehension (.ListComp elt [⟨.Name x px,iter,ifs,0⟩] sc pos) sc env pos' (newList []) false (eval iter env) use) Q E s:=by
 have hk:=Ku hsc
 refine wpAny_comprehension_free rfl (OG Ik) (Ey he hfr) hk (Io hsc) (y he hA R s _ E rfl (fun xv ZU tk z=> ?_) kx)
 obtain ⟨a,Z4,ZR,k₁,ZX,ZK,Zx⟩:=z
 refine(k₁ Zx hA ZK).go (fun it ZO VV z=> ?_) (fun e ZO VV p=>kx e ZO VV (p.up ZX))
 obtain ⟨b,ZW,Zl,⟨k,o,eb,Tt,hself,Inv,c,h0,turn⟩,l₂,Zg,Yx⟩:=z
 subst eb
 obtain ⟨I,eI,rfl⟩:=id Yx
 obtain ⟨m',cs,S,new,_,_⟩:=Zg.cs
 refine b7 (wpAny_newFunctionEnv (Ks hsc) (by intro y hy;simp at hy) (fun X8 hns ze=> ?_) hk)
 obtain ⟨⟨xj,CS,CR⟩,K1⟩:=new ZO.objs.size (.Z_ []) (ZO.push {cls:= .type "list",dict:=none,data:= .seq ([]:List h_).toArray}) (S.Xg (P:=Y3 (Zl.ρ++ [ZO.objs.size]) Zl.B ZO.objs.size (.Z_ [])) (o:={cls:= .type "list",dict:=none,data:= .seq ([]:List h_).toArray}) rfl ⟨[],by unfold ZE;rfl,0,Z6 _ _ _⟩)
 dsimp only at hns ze ⊢
 have MY:=CR.ss.Ng hns fun a o e=>ze.extBut a o (fun q=>absurd (q▸gJ e) (eT _)) (gD _ e)
 generalize hC:(ZO.push {cls:= .type "list",dict:=none,data:= .seq ([]:List h_).toArray}).objs.size=C at hns ze MY ⊢
 have Q8:Zl.le ⟨Zl.ρ++ [ZO.objs.size],Zl.B⟩:= .new
 have ll:=(ZX.trans l₂).trans Q8
 have Je:Rel G C ⟨Zl.ρ++ [ZO.objs.size],Zl.B⟩ ⟨[],ZW.hp++ [.Z_ []],ZW.os⟩ (Nl.NC env.locals xj::fs) X8:=⟨_,.nil,CR.len,MY.YT fun V hV=>Z0.Yo hV⟩
 have Ij:=M1 (C:=C) (sc:=sc) (he.up ll) hk
 have loop:=fun tk=>Kr (iter:=iter) (sc:=sc) (pos:=pos) (A:=A) (s:=s) (cenv:=compEnvC sc (Yv env.cells sc.names []) C env) (Q:=compPost (gO G.prog G.w) A E use Q (.ref ZO.objs.size) C) turn h0 hA.inner Ij (lookup_relabel_local (AZ hsc)) (Yx.up Q8) K1 Je (fun l' R' k=>fin k (ll.trans l') (CS.up l') (K1.up l') R') tk
 refine codeAny_compStart_list (loop _) ?_
 refine(LO (X':=fun _ _=>False) (σ:=⟨[],ZW.hp++ [.Z_ []],ZW.os⟩) (o:=o) (by rw[c9 (fD.mp Tt).1];exact Tt) hself (Yx.up Q8) hA.inner Je (Q:=fun it h=>it= .ref I/\h=X8) ⟨rfl,rfl⟩).go (fun it' h' tk y=> ?_) (fun _ _ _ y=>y.elim)
 obtain ⟨rfl,rfl⟩:=y
 exact loop _
theorem Ii {x:Str}{px pos:Pos}{elt iter:Expr}{ifs:List Expr}{sc:gQ}{K:AV->St->Prop}(hsc:RT sc x=true) (hfr:WV Φ sc=true) (Ik:isSet iter=false)
  (y:Zd G n Φ iter σ (fun a Z4=>Q9 G n RV fM a Z4 (A0 G n (WN Φ sc) x px ifs elt fun ZW QW=>K (.loc ZW.hp.length) ⟨ZW.loc,QW.hp,QW.os⟩) X) X):Zd G n Φ (.ListComp elt [⟨.Name x px,iter,ifs,0⟩] sc pos) σ K X:=fun env ω fs he A h hA R=>by
 intro s Q' E hs k' kx
 subst hs
 rw[eval_ListComp]
 refine Qy (use:=none) hsc hfr Ik y he hA R kx ?_
 intro ZW Zw QW m C Lr h' tk k l lm r ⟨mC,qE,RC⟩
 refine⟨mC,RC.ss.YQ,fun h'' hb=>k' _ h'' _ ⟨.loc ZW.hp.length,⟨ZW.loc,QW.hp,QW.os⟩,Zw,k,l,⟨m,lm,RC.len,?_⟩,r⟩⟩
 obtain ⟨V0,S0,V1,V2,d,q1,q2,⟨oL,es,ep,eL,hd,hst,hf⟩,rest⟩:=RC.ss.YT fun V hV=>Z0.YK hV
 have qw:∀a o,Zw.B a=some o->a≠C:=fun a o e q=>by rw[q,S0.bl] at e;cases e
 have nv:∀a o,V0 a=some o->a≠C:=fun a o e q=>by rw[q,S0.vl] at e;cases e
 have n2:V2 env.locals=none:=d env.locals (by rw[eL];exact fun z=>nomatch z)
 exact⟨V2,⟨S0.st,fun a o e=>(hb.2 a (qw a o e)).trans (S0.keep a o e),fun a o e=>(hb.2 a (nv a o (q2 _ _ e))).trans (S0.YW a o (q2 _ _ e)),⟨oL,es,ep,(hb.2 _ (nv _ _ (q1 _ _ eL))).trans (S0.YW _ _ (q1 _ _ eL)),hd,hst,hf⟩,fun a o e=>S0.vb _ _ (q2 _ _ e),n2,S0.vb _ _ (q1 _ _ eL)⟩,rest⟩
theorem SS.xh {hS h:Heap}{B:Part}{L C:Addr}{m mC:Str->Option h_}{cs:List (Part->Prop)}(S:SS hS B C mC (Nm L m::cs) h):SS hS B L m (Nm C mC::cs) h:=by
 obtain ⟨V,S,V1,V2,d,l1,l2,⟨o,es,ep,e,hd,hs,hf⟩,r⟩:=S
 obtain ⟨oC,es',JK,eC,hd',hs',hf'⟩:=id S.loc
 have n2:V2 L=none:=d L (by rw[e];exact fun z=>nomatch z)
 have nC:V2 C=none:=Zr l2 S.vl
 have ne:L≠C:=fun q=>by have:=S.vl;rw[<-q,l1 _ _ e] at this;cases this
 refine⟨upd V2 C (some oC),⟨S.st,S.keep,fun a oa ea=> ?_,⟨o,es,ep,S.YW _ _ (l1 _ _ e),hd,hs,hf⟩,fun a oa ea=> ?_,?_,S.vb _ _ (l1 _ _ e)⟩,upd (fun _=>none) C (some oC),V2,fun y hy=> ?_,fun y oy ey=> ?_,fun y oy ey=> ?_,⟨oC,es',JK,Z6 _ _ _,hd',hs',hf'⟩,r⟩
 ·by_cases q:a=C
  ·subst q;rw[Z6] at ea;cases ea;exact eC
  ·rw[Z2 q] at ea;exact S.YW _ _ (l2 _ _ ea)
 ·by_cases q:a=C
  ·subst q;exact S.bl
  ·rw[Z2 q] at ea;exact S.vb _ _ (l2 _ _ ea)
 ·rw[Z2 ne];exact n2
 ·by_cases q:y=C
  ·subst q;exact nC
  ·rw[Z2 q] at hy;exact absurd rfl hy
 ·by_cases q:y=C
  ·subst q;rw[Z6] at ey ⊢;exact ey
  ·rw[Z2 q] at ey;cases ey
 ·rw[Z2 (by rintro rfl;rw[nC] at ey;cases ey)];exact ey
set_option tactic.hygienic true in
theorem LM {x y0:Str}{px py pos spos:Pos}{elt iter:Expr}{ifs:List Expr}{sc:gQ}{K:Zk->St->Prop}(hcl:lk Φ.sc.names y0=some .local) (jZ:gZ py.line pos.line=true) (jY:(sc.names.all fun z=>match sq z.1 y0 with|true=>(match z.2 with| .local=>false| .cell=>false|_=>true)|false=>true)=true) (hsc:RT sc x=true) (hfr:WV Φ sc=true) (Ik:isSet iter=false)
  (y:Zd G n Φ iter σ (fun a Z4=>Q9 G n RV fM a Z4 (A0 G n (WN Φ sc) x px ifs elt fun ZW QW=>K .next ⟨Mine.put ZW.loc y0 (.loc ZW.hp.length),QW.hp,QW.os⟩) X) X):We G n Φ (.Assign [.Name y0 py] (.ListComp elt [⟨.Name x px,iter,ifs,0⟩] sc pos) spos) σ K X:=fun env ω fs he A h hA R=>by
 have hsw:dN (.ListComp elt [⟨.Name x px,iter,ifs,0⟩] sc pos) (some (.Name y0 py)) spos.line env=pure true:=by
  unfold dN
  have e1:(env.blockKind== .function)=true:=by unfold Env.blockKind;rw[he.kd];rfl
  have e2:(env.kindOf y0==some .local)=true:=by rw[he.kindOf,hcl];rfl
  have e3:(py.line==(Expr.ListComp elt [⟨.Name x px,iter,ifs,0⟩] sc pos).pos.line)=true:=by rw[PJ];exact jZ
  have e4:(!(sc.names.any fun(n,k)=>n==y0 && (k== .local||k== .cell)))=true:=by
   rw[Bool.not_eq_true',List.any_eq_false]
   intro z hz
   have:=gu.mp jY z hz
   show ¬((z.1==y0 && (z.2== .local||z.2== .cell))=true)
   rw[PO]
   cases q:sq z.1 y0 with
   |false=>simp
   |true=>rw[q] at this;obtain ⟨z1,z2⟩:=z;cases z2<;>first|(exfalso;exact cB this)|exact cB
  show pure (env.blockKind== .function && env.kindOf y0==some .local && py.line==(Expr.ListComp elt [⟨.Name x px,iter,ifs,0⟩] sc pos).pos.line && !(sc.names.any fun(n,k)=>n==y0 && (k== .local||k== .cell)))=pure true
  rw[e1,e2,e3,e4];rfl
 intro s Q0 E hs k' kx
 subst hs
 rw[exec_Assign_Name_used _ _ _ _ hsw]
 refine g_ (cL (g_ ?_))
 show gW _ A (do let _<-comprehension (.ListComp elt [⟨.Name x px,iter,ifs,0⟩] sc pos) sc env _ (newList []) false (eval iter env) (some (fJ (.Name y0 py) env))) _ _ s
 refine g_ (wpAny_mono (Qy (use:=some (fJ (.Name y0 py) env)) (Q:=fun _ s'=>Q0 .next s') hsc hfr Ik y he hA R kx ?_) (fun _ s' hq=>gU (gU hq)) fun _ _ e=>e)
 intro ZW Zw QW m C Lr h' tk k l lm r ⟨mC,qE,RC⟩
 have SW:=(RC.ss.YT fun V hV=>Z0.YK hV).xh
 show gW _ A (fJ (.Name y0 py) env (.ref Lr)) _ _ _
 refine(Uu (X:=fun _ _=>False) SW (Q:=fun _ h''=>SS G.hS Zw.B env.locals (upd m y0 (some (.ref Lr))) (Nm C mC::(parts Zw.B Zw.ρ Zw.ρ QW.hp++frames fs)) h'') (fun h'' S=>S) (by rw[he.kindOf];exact hcl) rfl he.XJ).go (fun _ MZ xr qu=> ?_) (fun _ _ _ y=>y.elim)
 obtain ⟨V0,S0,V1,V2,d,q1,q2,⟨oC,es,ep,eC,hd,hst,hf⟩,rest⟩:=qu
 refine⟨mC,⟨oC,es,ep,S0.YW _ _ (q1 _ _ eC),hd,hst,hf⟩,fun h'' hb=>k' _ h'' _ ⟨.next,⟨Mine.put ZW.loc y0 (.loc ZW.hp.length),QW.hp,QW.os⟩,Zw,k,l,⟨_,lm.put r,RC.len,?_⟩,rfl⟩⟩
 have qw:∀a o,Zw.B a=some o->a≠C:=fun a o e q=>by subst q;have:=S0.vb _ _ (q1 _ _ eC);rw[e] at this;cases this
 have n2:V2 C=none:=d C (by rw[eC];exact fun z=>nomatch z)
 have nv:∀a o,V2 a=some o->a≠C:=fun a o e q=>by subst q;rw[n2] at e;cases e
 have jX:env.locals≠C:=fun q=>by have:=S0.vl;rw[q] at this;rw[q1 _ _ eC] at this;cases this
 exact⟨V2,⟨S0.st,fun a o e=>(hb.2 a (qw a o e)).trans (S0.keep a o e),fun a o e=>(hb.2 a (nv a o e)).trans (S0.YW a o (q2 _ _ e)),S0.loc.sameBut hb jX,fun a o e=>S0.vb _ _ (q2 _ _ e),Zr q2 S0.vl,S0.bl⟩,rest⟩
def Ih (sc:gQ) (ps:List Str):Bool:=(match sc.kind with| .function=>true|_=>false) && !sc.isGenerator && !sc.isCoroutine && (sc.names.all fun x=>match x.2 with| .cell=>false|_=>true) && XZ sc ps
theorem Ys.lk {ρ:List Addr}:∀{cl:List (Str×Nat)}{r:List (Str×Addr)}{x:Str}{i:Nat},Ys ρ cl r->Mine.lk cl x=some i->∃c,r.lookup x=some c/\ρ[i]?=some c
 | [],[],_,_,_,e=>by cases e
 |(y,j)::l,(z,a)::r,x,i,⟨h1,h2,h3⟩,e=>by
  have h1:y=z:=h1
  subst h1
  unfold Mine.lk at e
  rw[dD]
  cases q:sq y x with
  |true=>rw[q] at e;cases e;have:=Zv.mp q;subst this;exact⟨a,by simp,h2⟩
  |false=>
   rw[q] at e
   have:(x==y)=false:=by
    have:x≠y:=fun e=>by subst e;rw[Zv.mpr rfl] at q;cases q
    simpa using this
   rw[this];exact Ys.lk h3 e
 | [],_::_,_,_,h,_=>h.elim
 |_::_,[],_,_,h,_=>h.elim
theorem xg {ps:List Str}{body:Expr}{sc:gQ}{cl:List (Str×Nat)}{as:List AV}{K:AV->St->Prop}(hlen:as.length=ps.length) (hs:Ih sc ps=true)
  (x:Zd G n ⟨sc,cl,none⟩ body ⟨(Ur ps as).foldl (fun l x=>Mine.put l x.1 x.2) [],σ.hp,σ.os⟩ (fun a ZH=>K a ⟨σ.loc,ZH.hp,ZH.os⟩) Zn):Ve G (n+1) (.YV ps body sc cl) as σ K X:=fun L fs ω fv vs rf r A h hA R=>by
 obtain ⟨f,fd,rfl,⟨eB,e4,e5,e7,e8,⟨c,oc,s_,t,jW,jV,jU⟩,e9⟩,cr⟩:=rf
 unfold Ih at hs
 obtain ⟨hs,s5⟩:=g6.mp hs
 obtain ⟨hs,s4⟩:=g6.mp hs
 obtain ⟨hs,s3⟩:=g6.mp hs
 obtain ⟨s1,s2⟩:=g6.mp hs
 have kind:sc.kind= .function:=by cases q:sc.kind<;>rw[q] at s1<;>first|rfl|cases s1
 have gen:sc.isGenerator=false:=by simpa using s2
 have co:sc.isCoroutine=false:=by simpa using s3
 have hv:vs.length=ps.length:=by rw[<-hlen];exact ZT.length r
 refine WC.call (prog:=G.prog) (w:=G.w) ?_
 intro s RR hs' g gx
 subst hs'
 obtain ⟨m,lm,R'⟩:=id R
 have hcd:s.heap.CodeRec fd.code fd.qualname:=⟨c,oc,s_,t,jW,R.Vd _ _ jV,jU⟩
 refine kla_callFunE hA.rm.room (R.Vd _ _ eB) rfl (by rw[e5];exact co) (by rw[e5];exact gen) e4 hcd ?_
 rw[e9 vs hv]
 have hloc:∀x∈gH ps vs,fd.scope.names.lookup x.1=some .local:=fun x hx=>by
  rw[e5]
  refine VT s5 x.1 ?_
  rw[<-SP hv]
  exact bA hx
 refine gU (wpAny_newFunctionEnv (fun x hx=> ?_) hloc (fun ZU hn ze=>⟨(G.Z.nolimit.keeps R'.ss.Z8).fresh _ ze,?_⟩) (by rw[e5];exact kind))
 ·have:=gu.mp s4 x (e5▸hx)
  intro q;rw[q] at this;cases this
 ·have Sl:∀a o,s.heap.get? a=some o->ZU.get? a=some o:=fun b o e=>ze.extBut b o (f_ (gJ e)) (gD _ e)
  show codeAny (gO G.prog G.w) A (.expr body (callEnv fd s.heap.objs.size f)) RR _
  refine kla_codeExpr ?_
  have S':=R'.ss.Ng hn Sl
  rw[Sv] at S'
  have he:Zb ⟨sc,cl,none⟩ (callEnv fd s.heap.objs.size f) ω.ρ:=⟨e5,kind,e7,e8,fun x i q=>Ys.lk cr q,fun c q e=>by cases e⟩
  have ZK:Rel G s.heap.objs.size ω ⟨(Ur ps as).foldl (fun l x=>Mine.put l x.1 x.2) [],σ.hp,σ.os⟩ (Nl.NC L m::fs) ZU:=⟨_,YS.binds hv.symm r .nil,R'.len,S'.YT fun V hV=>Z0.Yo hV⟩
  refine(x (fs:=Nl.NC L m::fs) he (Wu.deeper (m:=m) hA (by show fd.scope.kind=_;rw[e5];exact kind) rfl rfl) ZK).go (fun v ZO tk y=> ?_) (fun _ _ _ y=>y.no)
  obtain ⟨a',ZH,Zw,k,l',⟨m₂,C3,Zg⟩,rf⟩:=y
  have MX:SS G.hS Zw.B L m (parts Zw.B Zw.ρ Zw.ρ ZH.hp++frames fs) ZO:=(Zg.ss.YT fun V hV=>Z0.YK hV).P5
  exact g _ ZO tk ⟨a',_,Zw,k,l',⟨m,lm.up l',Zg.len,MX⟩,rf⟩
def RS (cm:List (Str×Nat)):List (Str×gr)->List (Str×Nat)->List (Str×Nat)
 | [],acc=>acc
 |(x,k)::r,acc=>match k with| .free=>RS cm r ((x,(lk cm x).getD 0)::acc)|_=>RS cm r acc
theorem RQ {ρ:List Addr}{cm:List (Str×Nat)}{cells:List (Str×Addr)}(hc:∀x i,lk cm x=some i->∃c,cells.lookup x=some c/\ρ[i]?=some c):∀{l:List (Str×gr)}{a:List (Str×Nat)}{b:List (Str×Addr)},((XU l).all fun x=>(lk cm x).isSome)=true->Ys ρ a b->Ys ρ (RS cm l a) (Yv cells l b)
 | [],_,_,_,h=>h
 |(x,k)::r,a,b,hf,h=>by
  unfold RS Yv
  unfold XU at hf
  cases k with
  |free=>
   simp only[fP,g6] at hf
   obtain ⟨i,hi⟩:=bM.mp hf.1
   obtain ⟨c,e1,e2⟩:=hc x i hi
   refine RQ hc hf.2 ⟨rfl,?_,h⟩
   show ρ[(lk cm x).getD 0]?=some ((cells.lookup x).getD 0)
   rw[hi,e1];exact e2
  |_=>exact RQ hc hf h
set_option tactic.hygienic true in
theorem UJ {pos pos':Pos}{c cv:h_}:∀(l:List h_),TriplesOk l->c8 pos' (l++ [rawInt pos.line,rawInt pos.col,c])=some cv->c8 pos' l=some cv\/cv=c:=by
 intro l h
 fun_induction TriplesOk l with
 |case1=>
  intro e
  simp only[List.nil_append,c8,rawInt] at e
  split at e
  ·cases e;exact .inr rfl
  ·cases e
 |case2 a t b u x rest ih=>
  intro e
  simp only[List.cons_append,c8] at e ⊢
  split at e
  ·cases e;rename_i hc;rw[if_pos hc];exact .inl rfl
  ·rename_i hc;rw[if_neg hc];exact ih h e
 |case3 l h1 h2=>exact h.elim
structure Ig (G:Gm) (c P:Addr):Prop where
 hd:CodeHd G.hS c P
 bm:∃mg,G.hS.Ns mainGlobals mg/\G.hS.BuiltinsAt mg P
 ne:mainGlobals≠P
def Ie (a:dH):Option (List Str):=match a.posonlyargs.isEmpty && a.vararg.isNone && a.kwonlyargs.isEmpty && a.kw_defaults.isEmpty && a.kwarg.isNone && a.defaults.isEmpty with
 |true=>(match a.args with| [x]=>(match sq x.arg "place" with|true=>some ["place"]|false=>none)|_=>none)
 |false=>none
inductive nq:dH->List Str->Prop
 |mk (t:Option Expr) (p:Pos):nq ⟨[],[⟨"place",t,p⟩],none,[],[],none,[]⟩ ["place"]
theorem LK {a:dH}{ps:List Str}(h:Ie a=some ps):nq a ps:=by
 obtain ⟨p,l,v,ko,kd,kw,d⟩:=a
 cases p with
 |cons=>exact Xd h
 |nil=>cases v with
  |some=>exact Xd h
  |none=>cases ko with
   |cons=>exact Xd h
   |nil=>cases kd with
    |cons=>exact Xd h
    |nil=>cases kw with
     |some=>exact Xd h
     |none=>cases d with
      |cons=>exact Xd h
      |nil=>cases l with
       |nil=>exact Xd h
       |cons a r=>cases r with
        |cons=>exact Xd h
        |nil=>
         obtain ⟨x,t,p⟩:=a
         have h:(match sq x "place" with|true=>some ["place"]|false=>none)=some ps:=h
         cases q:sq x "place" with
         |false=>rw[q] at h;exact Xd h
         |true=>
          rw[q] at h
          cases h
          rw[Zv.mp q]
          exact .mk t p
theorem Ic {a:dH}{ps:List Str}(h:Ie a=some ps) (env:Env):defaultsOf a env=([],[]):=by
 obtain ⟨t,p⟩:=LK h
 rfl
theorem Kq {a:dH}{ps:List Str}(h:Ie a=some ps) {nm ql:Str}{body:Expr}{sc:gQ}{cls:List (Str×Addr)}{pm cdv ct:h_}:∀vs:List h_,vs.length=ps.length->bindArgs (kla_fn nm ql a body sc cls pm cdv ct) ⟨vs,[]⟩=pure (gH ps vs):=by
 obtain ⟨t,p⟩:=LK h
 intro vs hv
 cases vs with
 |nil=>cases hv
 |cons v r=>cases r with
  |cons=>cases hv
  |nil=>rfl'
theorem Ib {params:dH}{body:Expr}{sc:gQ}{pos:Pos}{ps:List Str}{c P:Addr}{q:Str}{i:Nat}{K:AV->St->Prop}(hp:Ie params=some ps) (hcd:Φ.cd=some (c,q)) (hT:Ig G c P) (hi:σ.hp[i]?=some (.tab P (q++ "<lambda>")))
  (hfr:((XU sc.names).all fun x=>(lk Φ.cm x).isSome)=true)
  (k:K (.YV ps body sc (RS Φ.cm sc.names [])) σ):Zd G n Φ (.Lambda params body sc pos) σ K X:=fun env ω fs he A h hA R=>by
 intro s Q0 E hs k' kx
 subst hs
 obtain ⟨hcode,hq⟩:=he.code c q hcd
 obtain ⟨m,lm,R'⟩:=id R
 obtain ⟨a,rest,XD,S,back,_⟩:=R'.at hi
 obtain ⟨V,S,V1,V2,d,l1,l2,⟨rfl,tb,e1,ht,hall⟩,hrest⟩:=S
 have same:=R'.same hi
 obtain ⟨mg,hns,hbm⟩:=hT.bm
 have hcl:closureFor sc env=pure (Yv env.cells sc.names []):=Vb fun x hx=>by
  have:=gu.mp hfr x (Ui hx)
  obtain ⟨i,hi⟩:=bM.mp this
  obtain ⟨c,e,_⟩:=he.cells x i hi
  rw[e];rfl
 have hclo:Ys ω.ρ (RS Φ.cm sc.names []) (Yv env.cells sc.names []):=RQ he.cells hfr trivial
 have Z8:=R.Z8
 have hP:s.heap.get? a=some (gC tb):=S.YW _ _ (l1 _ _ e1)
 have C:CodeHd s.heap c a:=hT.hd.keeps Z8
 have hg:s.heap.Ns mainGlobals mg:=hns.keeps Z8
 have xf:s.heap.BuiltinsAt mg a:=by
  obtain ⟨bm,o,b1,b2,b3,b4,b5,b6⟩:=hbm
  exact⟨bm,o,b1,b2,b3,b4,Z8 _ _ b5,b6⟩
 have nk:V a=some (gC tb):=l1 _ _ e1
 have nj:ω.B a=none:=S.vb _ _ nk
 have ni:env.locals≠a:=fun e=>by have:=S.vl;rw[e,nk] at this;cases this
 have below:∀b o,ω.B b=some o->b<s.heap.objs.size:=fun b o e=>gJ (S.keep _ _ e)
 have fin:∀{tb':Array h_}{h':Heap}{tk:Nat}{nm:Str}{pm ctv cdv:h_}{B':Part},(∀b o,b≠a->s.heap.get? b=some o->h'.get? b=some o)->s.heap.objs.size<=h'.objs.size->h'.get? a=some (gC tb')->TriplesOk tb'.toList->Le ω.B B'->(∀b o,B' b=some o->h'.get? b=some o)->
   (∀b o,B' b=some o->ω.B b=none->s.heap.objs.size<=b)->(∀pos cv,c8 pos tb'.toList=some cv->Tz B' cv (q++ "<lambda>"))->Tz B' cdv (q++ "<lambda>")->
   Q0 (.ref h'.objs.size) {s with heap:=h'.push {cls:= .type "function",data:= .func (kla_fn nm (q++ "<lambda>") params body sc (Yv env.cells sc.names []) pm cdv ctv)},toks:=tk}:=by
  intro tb' h' tk nm pm ctv cdv B' hk hsz jT ht' lB nh hnew xe qt
  have jS:B' h'.objs.size=none:=by
   cases e:B' h'.objs.size with
   |none=>rfl
   |some o=>exact absurd (gJ (nh _ _ e)) (eT _)
  let fo:Obj:={cls:= .type "function",data:= .func (kla_fn nm (q++ "<lambda>") params body sc (Yv env.cells sc.names []) pm cdv ctv)}
  let B2:Part:=upd B' h'.objs.size (some fo)
  have xd:Le B' B2:=fun b o e=>by
   show upd B' h'.objs.size (some fo) b=some o
   rw[Z2 (fun q=>by rw[q,jS] at e;cases e)];exact e
  have qq:B' a=none:=by
   cases e:B' a with
   |none=>rfl
   |some o=>exact absurd (hnew _ _ e nj) (Nat.not_le.mpr (gJ hP))
  have hV:∀b o,V b=some o->b<s.heap.objs.size:=fun b o e=>gJ (S.YW _ _ e)
  have w_:env.locals<s.heap.objs.size:=by obtain ⟨o,_,_,e,_⟩:=S.loc;exact gJ e
  have push:∀b o,h'.get? b=some o->(h'.push fo).get? b=some o:=fun b o e=>gD _ e
  obtain ⟨a2,w9,CQ,q1,q2,q3⟩:=YM (B:=B2) (ρ:=ω.ρ) R'.len hi
  have ea:a2=a:=by rw[q1] at XD;exact gj XD
  rw[ea] at q2 q3
  have hr2:Z0 (w9++(CQ++frames fs)) V2:=by
   have z:=back .gone V2 ⟨fun _=>none,V2,fun _ h=>absurd rfl h,(fun _ _ e=>nomatch e),Le.rfl,trivial,hrest⟩
   have z:=XM (B':=B2) (cJ ω.ρ) (lB.trans xd) z
   rw[q3,gG] at z;exact(Z0.YK z).weak
  have S2:SS G.hS B2 env.locals m (Y3 ω.ρ B2 a (.tab a (q++ "<lambda>"))::(w9++(CQ++frames fs))) (h'.push fo):=by
   refine⟨upd V a (some (gC tb')),⟨fun b o e=>xd _ _ (lB _ _ (S.st b o e)),fun b o e=> ?_,fun b o e=> ?_,?_,fun b o e=> ?_,?_,?_⟩,upd (fun _=>none) a (some (gC tb')),V2,fun y hy=> ?_,fun y oy ey=> ?_,fun y oy ey=> ?_,⟨rfl,tb',Z6 _ _ _,ht',fun p cv e=>(xe p cv e).mono xd⟩,hr2⟩
   ·by_cases x:b=h'.objs.size
    ·subst x
     have e:upd B' h'.objs.size (some fo) h'.objs.size=some o:=e
     rw[Z6] at e;cases e;exact fy _ rfl
    ·have e:upd B' h'.objs.size (some fo) b=some o:=e
     rw[Z2 x] at e;exact push _ _ (nh _ _ e)
   ·by_cases x:b=a
    ·subst x;rw[Z6] at e;cases e;exact push _ _ jT
    ·rw[Z2 x] at e;exact push _ _ (hk _ _ x (S.YW _ _ e))
   ·obtain ⟨o,es,ep,e,r⟩:=S.loc;exact⟨o,es,ep,push _ _ (hk _ _ ni e),r⟩
   ·show upd B' h'.objs.size (some fo) b=none
    by_cases x:b=a
    ·subst x;rw[Z2 (f_ (d7 (gJ hP) hsz))];exact qq
    ·rw[Z2 x] at e
     have lt:=hV _ _ e
     rw[Z2 (f_ (d7 lt hsz))]
     cases e':B' b with
     |none=>rfl
     |some o'=>exact absurd (hnew _ _ e' (S.vb _ _ e)) (Nat.not_le.mpr lt)
   ·rw[Z2 ni];exact S.vl
   ·show upd B' h'.objs.size (some fo) env.locals=none
    rw[Z2 (f_ (d7 w_ hsz))]
    cases e':B' env.locals with
    |none=>rfl
    |some o'=>exact absurd (hnew _ _ e' S.bl) (Nat.not_le.mpr w_)
   ·by_cases x:y=a
    ·subst x;exact d y (by rw[e1];exact fun z=>nomatch z)
    ·rw[Z2 x] at hy;exact absurd rfl hy
   ·by_cases x:y=a
    ·subst x;rw[Z6] at ey ⊢;exact ey
    ·rw[Z2 x] at ey;cases ey
   ·rw[Z2 (fun x=>by subst x;have:=d y (by rw[e1];exact fun z=>nomatch z);rw[this] at ey;cases ey)];exact l2 _ _ ey
  have L_:ω.le ⟨ω.ρ,B2⟩:=⟨cJ _,lB.trans xd⟩
  have rest':Rel G env.locals ⟨ω.ρ,B2⟩ σ fs (h'.push fo):=by
   refine⟨m,YS.up L_ lm,R'.len,S2.YT fun V hV=> ?_⟩
   show Z0 (parts B2 ω.ρ ω.ρ σ.hp++frames fs) V
   rw[q2,gG]
   exact Z0.Yo hV
  exact k' _ _ tk ⟨_,σ,⟨ω.ρ,B2⟩,k,L_,rest',⟨_,_,rfl,⟨Z6 _ _ _,rfl,rfl,rfl,rfl,qt.mono xd,Kq hp⟩,hclo⟩⟩
 refine kla_eval (Ic hp env) ?_
 rw[hq]
 cases hf:c8 pos tb.toList with
 |some cv=>
  obtain ⟨c',oc,s_,tt,rfl,hB,hx⟩:=hall pos cv hf
  refine kla_makeFunctionHit hcl he.gl hg hcode C hP ht hf xf fun ctv h' tk hk hsz=> ?_
  exact fin (B':=ω.B) (fun b o _ e=>hk b o e) hsz (hk _ _ hP) ht Le.rfl (fun b o e=>hk _ _ (S.keep _ _ e)) (fun b o e e'=>by rw[e] at e';cases e') hall (hall pos _ hf)
 |none=>
  refine kla_makeFunction hcl he.gl hg hcode C hP ht hf hT.ne xf fun c' ctv h' tk hx hge hlt hrec htb=> ?_
  obtain ⟨c2,oc,s_,tt,e2,hoc,hd,hv⟩:=hrec
  cases e2
  have jR:ω.B c'=none:=by
   cases e:ω.B c' with
   |none=>rfl
   |some o=>exact absurd hge (Nat.not_le.mpr (below _ _ e))
  have lB:Le ω.B (upd ω.B c' (some oc)):=fun b o e=>by rw[Z2 (fun q=>by rw[q,jR] at e;cases e)];exact e
  have zd:Tz (upd ω.B c' (some oc)) (.ref c') (q++ "<lambda>"):=⟨c',oc,s_,tt,rfl,Z6 _ _ _,hd,hv⟩
  refine fin (B':=upd ω.B c' (some oc)) hx (fN hge (Nat.le_of_lt hlt)) htb ?_ lB (fun b o e=> ?_) (fun b o e e'=> ?_) (fun p cv e=> ?_) zd
  ·rw[Array.toList_append];exact TriplesOk_snoc _ _ _ _ ht
  ·by_cases x:b=c'
   ·subst x;rw[Z6] at e;cases e;exact hoc
   ·rw[Z2 x] at e;exact hx _ _ (fun q=>by subst q;rw[nj] at e;cases e) (S.keep _ _ e)
  ·by_cases x:b=c'
   ·subst x;exact hge
   ·rw[Z2 x,e'] at e;cases e
  ·rw[Array.toList_append] at e
   rcases UJ _ ht e with e|e
   ·exact(hall p cv e).mono lB
   ·subst e;exact zd
end
structure Cl where
 init:Nat
 meths:List (Str×Nat)
 attrs:List Str
structure Tb where
 gl:List (Str×AV)
 fn:List (Nat×Fn)
 cl:List (Nat×Cl)
 tb:List (Nat×Nat)
def Ux {α:Type}:List (Nat×α)->Nat->Option α
 | [],_=>none
 |(y,v)::r,x=>match gZ y x with|true=>some v|false=>Ux r x
structure ZY (G:Gm) (T:Tb):Prop where
 gl:∀x a,lk T.gl x=some a->P8 G x a
 fn:∀a f,Ux T.fn a=some f->Q6 G a f/\gw G.K (.ref a)=true
 cl:∀C c,Ux T.cl C=some c->Ws G.K C c.init=true/\gw G.K (.ref C)=true/\(∀x f,lk c.meths x=some f->W3 G.K C x f=true)/\∀x,Td x c.attrs=true->Xj G.K C x=true/\YD G.K C x=true
 tb:∀c P,Ux T.tb c=some P->Ig G c P
def Z5 (G:Gm) (n:Nat) (f:AV) (as:List AV) (H:List AO) (r:AV) (H':List AO):Prop:=∀loc os,Ve G n f as ⟨loc,H,os⟩ (fun r' ZH=>r'=r/\ZH=⟨loc,H',os⟩) Zn
def Wb (G:Gm) (n:Nat) (Φ:Fm) (s:Stmt) (loc:List (Str×AV)) (H:List AO) (fl:Zk) (YQ:List (Str×AV)) (H':List AO):Prop:=∀os,We G n Φ s ⟨loc,H,os⟩ (fun Fe ZH=>Fe=fl/\ZH=⟨YQ,H',os⟩) Zn
def MW (G:Gm) (n:Nat) (Φ:Fm) (e:Expr) (loc:List (Str×AV)) (H:List AO) (r:AV) (H':List AO):Prop:=∀os,Zd G n Φ e ⟨loc,H,os⟩ (fun r' ZH=>r'=r/\ZH=⟨loc,H',os⟩) Zn
structure Ev where
 e:Nat->Fm->Expr->St->(AV->St->Prop)->Prop
 t:Nat->Fm->Expr->St->(Bool->St->Prop)->Prop
 es:Nat->Fm->List Expr->St->(List AV->St->Prop)->Prop
 s:Nat->Fm->Stmt->St->(Zk->St->Prop)->Prop
 ss:Nat->Fm->List Stmt->St->(Zk->St->Prop)->Prop
 a:Nat->Fm->Expr->AV->St->(St->Prop)->Prop
 ae:Nat->Fm->List Expr->List AV->St->(St->Prop)->Prop
 c:Nat->Nat->AV->List AV->St->(AV->St->Prop)->Prop
 lp:Nat->Fm->Nat->Expr->List Stmt->St->(Zk->St->Prop)->Prop
 wh:Nat->Fm->Expr->List Stmt->St->(Zk->St->Prop)->Prop
 cp:Nat->Fm->Nat->Nat->Expr->Str->List Expr->Expr->Nat->St->(St->Prop)->Prop
def ng:Ev:=⟨fun _ _ _ _ _=>False,fun _ _ _ _ _=>False,fun _ _ _ _ _=>False,fun _ _ _ _ _=>False,fun _ _ _ _ _=>False,fun _ _ _ _ _ _=>False,fun _ _ _ _ _ _=>False,fun _ _ _ _ _ _=>False,fun _ _ _ _ _ _ _=>False,fun _ _ _ _ _ _=>False,fun _ _ _ _ _ _ _ _ _ _ _=>False⟩
section
variable (G:Gm) (T:Tb) (R:Ev)
def Ia (c:Const) (σ:St) (K:AV->St->Prop):Prop:=match c with| .none=>K (.d .none) σ| .bool b=>K (.d (.bool b)) σ| .int i=>K (.d (.int i)) σ| .str s=>K (.d (.str s)) σ|_=>False
def MV:AO->Option (Option AV)| .cell a=>some a|_=>none
def MU:AO->Option (Addr×List (Str×AV))| .inst C l=>some (C,l)|_=>none
def H_ (Φ:Fm) (x:Str) (σ:St) (K:AV->St->Prop):Prop:=ok (!sq x ("__classdict__" :Str)) (opt (lk Φ.cm x) fun i=>opt σ.hp[i]? fun o=>opt (MV o) fun a=>opt a fun a=>K a σ)
def CP (Φ:Fm) (x:Str) (σ:St) (K:AV->St->Prop):Prop:=ok (!sq x ("__debug__" :Str)) (opt (lk Φ.sc.names x) fun k=>match k with
 | .local=>opt (lk σ.loc x) fun a=>K a σ
 | .cell=>H_ Φ x σ K
 | .free=>H_ Φ x σ K
 | .globalImplicit=>opt (lk T.gl x) fun a=>K a σ
 |_=>False)
def w7 (a:AV) (attr:Str) (σ:St) (K:AV->St->Prop):Prop:=CY a fun i=>opt σ.hp[i]? fun o=>opt (MU o) fun p=>opt (Ux T.cl p.1) fun c=>opt (lk p.2 attr) fun b=>ok (Td attr c.attrs) (K b σ)
def w6 (a:AV) (attr:Str) (b:AV) (σ:St) (K:St->Prop):Prop:=CY a fun i=>opt σ.hp[i]? fun o=>opt (MU o) fun p=>opt (Ux T.cl p.1) fun c=>ok (Td attr c.attrs) (ok (gK p.2.length 900) (K {σ with hp:=σ.hp.set i (.inst p.1 (Mine.put p.2 attr b))}))
def Ug:List (Str×BI):= [("append",.Yi),("pop",.Fp),("insert",.SY),("remove",.SX),("extend",.lextend)]
def H6:List (Str×BI):= [("lower",.Qa),("join",.UQ)]
def w5 (i:Nat) (name:Str) (k:AV->List AV->Prop):AO->Prop
 | .inst C fs=>opt (Ux T.cl C) fun c=>ok (match lk fs name with|none=>true|some _=>false) (opt (lk c.meths name) fun f=>opt (Ux T.fn f) fun _=>k (.Z8 (.ref f)) [.loc i])
 | .mb C y _=>opt (Ux T.cl C) fun c=>ok (!sq y name) (opt (lk c.meths name) fun f=>opt (Ux T.fn f) fun _=>k (.Z8 (.ref f)) [.loc i])
 | .dict _=>ok (sq name ("get" :Str)) (k (.bi .K5) [.loc i])
 | .list _=>opt (lk Ug name) fun b=>k (.bi b) [.loc i]
 | .Z_ _=>opt (lk Ug name) fun b=>k (.bi b) [.loc i]
 |_=>False
def CN (a:AV) (name:Str) (H:List AO) (k:AV->List AV->Prop):Prop:=match a with
 | .loc i=>opt H[i]? (w5 T i name k)
 | .d x=>opt (dS x) fun s=>opt (lk H6 name) fun b=>k (.bi b) [.d (.str s)]
 |_=>False
def isRef:h_->Option Nat| .ref a=>some a|_=>none
def calls (f:AV):Bool:=match f with| .bi _=>true| .YV .. =>true| .Z8 v=>(match isRef v with|some a=>(match Ux T.fn a with|some _=>true|none=>(Ux T.cl a).isSome)|none=>false)|_=>false
def OE (n:Nat) (Φ:Fm) (o:Option Expr) (σ:St) (K:Option Int->St->Prop):Prop:=match o with|none=>K none σ|some e=>R.e n Φ e σ fun a σ=>Un a fun i=>K (some i) σ
def HZ (n:Nat) (Φ:Fm) (es:List Expr) (σ:St) (K:List AV->St->Prop):Prop:=match es with| []=>K [] σ|e::r=>R.es n Φ (e::r) σ K
def noKw (kw:List Keyword):Bool:=match kw with| []=>true|_=>false
def PD (x:Expr):Option (Expr×Str×Pos):=Ye 20 x (none) fun h=> @cY (fun _=>Option (Expr×Str×Pos)) x h fun o name p=>some (o,name,p)
def HY (n:Nat) (Φ:Fm) (f:Expr) (args:List Expr) (pos:Pos) (σ:St) (K:AV->St->Prop):Prop:=
 match PD f with
 |some p=>ok (Vx p.1) (ok (PX args p.2.2 pos) (R.e n Φ p.1 σ fun a σ=>CN T a p.2.1 σ.hp fun fv first=>ok (calls T fv) (HZ R n Φ args σ fun as σ=>R.c n pos.line fv (first++as) σ K)))
 |none=>ok (!(args.any ZD)) (R.e n Φ f σ fun fv σ=>ok (calls T fv) (HZ R n Φ args σ fun as σ=>R.c n pos.line fv as σ K))
def PC (n:Nat) (fn:Fn) (as:List AV) (σ:St) (K:AV->St->Prop):Prop:=
 ok (gZ as.length fn.ps.length) (match U8 fn with
  |true=>ok (XZ fn.sc (fn.ps++fn.ex.map (·.1))) (R.ss n ⟨fn.sc,[],fn.cd⟩ fn.body ⟨QI fn as,σ.hp,σ.os⟩ fun fl ZH=>K (VS fl) ⟨σ.loc,ZH.hp,ZH.os⟩)
  |false=>ok (match fn.ex with| []=>true|_=>false) (ok (Vy fn.sc fn.ps) (ok (distinct (cellsOf fn.sc.names [])) (R.ss n (KX fn σ.hp.length) fn.body ⟨Jc fn.sc fn.ps as,σ.hp++WX fn.sc fn.ps as,σ.os⟩ fun fl ZH=>K (VS fl) ⟨σ.loc,ZH.hp,ZH.os⟩))))
def m_ (a:AV):Bool:=match a with| .d x=>PR x|_=>false
def CM (n:Nat) (a:Nat) (as:List AV) (σ:St) (K:AV->St->Prop):Prop:=opt (Ux T.cl a) fun c=>match n with
 |0=>False
 |1=>False
 |n+2=>opt (Ux T.fn c.init) fun fn=>PC R n fn (.loc σ.hp.length::as) ⟨σ.loc,σ.hp++ [.inst a []],σ.os⟩ fun r ZH=>ok (m_ r) (K (.loc σ.hp.length) ZH)
def qp (n:Nat) (ps:List Str) (body:Expr) (sc:gQ) (cl:List (Str×Nat)) (as:List AV) (σ:St) (K:AV->St->Prop):Prop:=match n with
 |0=>False
 |n+1=>ok (gZ as.length ps.length) (ok (Ih sc ps) (R.e n ⟨sc,cl,none⟩ body ⟨(Ur ps as).foldl (fun l x=>Mine.put l x.1 x.2) [],σ.hp,σ.os⟩ fun a ZH=>K a ⟨σ.loc,ZH.hp,ZH.os⟩))
def CL (n:Nat) (v:h_) (as:List AV) (σ:St) (K:AV->St->Prop):Prop:=opt (isRef v) fun a=>(match Ux T.fn a with
 |some fn=>(match n with|0=>False|n+1=>PC R n fn as σ K)
 |none=>CM T R n a as σ K)
def Ex (n:Nat) (l:Nat) (f:AV) (as:List AV) (σ:St) (K:AV->St->Prop):Prop:=
 match f with
 | .bi b=>xR l b as σ K
 | .Z8 v=>CL T R n v as σ K
 | .YV ps body sc cl=>qp R n ps body sc cl as σ K
 |_=>False
def HX (P:Addr) (q:Str):AO->Bool| .tab P' q'=>(match gZ P' P with|true=>sq q' q|false=>false)|_=>false
def OD (P:Addr) (q:Str):List AO->Option Nat
 | []=>none
 |o::r=>match HX P q o with
  |true=>some 0
  |false=>(match OD P q r with|some i=>some (i+1)|none=>none)
def w4 (Φ:Fm) (params:dH) (body:Expr) (sc:gQ) (σ:St) (K:AV->St->Prop):Prop:=
 opt Φ.cd fun c=>opt (Ux T.tb c.1) fun P=>opt (OD P (c.2++ "<lambda>") σ.hp) fun _=>ok ((XU sc.names).all fun x=>(lk Φ.cm x).isSome) (opt (Ie params) fun ps=>K (.YV ps body sc (RS Φ.cm sc.names [])) σ)
def CK (l:Nat) (os:List Gh):Option (AV×List AO×List Gh):=match os with| .con l' r H::os=>(match gZ l' l with|true=>some (r,H,os)|false=>none)|_=>none
def cutAt (l:Nat) (os:List Gh):Option (Zk×List (Str×AV)×List AO×List Gh):=match os with| .cut l' fl loc H::os=>(match gZ l' l with|true=>some (fl,loc,H,os)|false=>none)|_=>none
def MT (l:Nat) (os:List Gh):Option (AV×List AO×List Gh):=match os with| .Jj l' r H::os=>(match gZ l' l with|true=>some (r,H,os)|false=>none)|_=>none
def xC (n:Nat) (l:Nat) (f:AV) (as:List AV) (σ:St) (K:AV->St->Prop):Prop:=
 match CK l σ.os with
 |some (r,H,os)=>Z5 G n f as σ.hp r H/\K r ⟨σ.loc,H,os⟩
 |none=>Ex T R n l f as σ K
def PB {α:Type}:List α->Option α| [a]=>some a|_=>none
def wZ (n:Nat) (Φ:Fm) (a:Expr) (ops:List fW) (cs:List Expr) (σ:St) (K:AV->St->Prop):Prop:=
 opt (PB ops) fun op=>opt (PB cs) fun b=>ok (!isSet b) (R.e n Φ a σ fun u σ=>R.e n Φ b σ fun v σ=>IU op u v σ K)
def MS (x:Expr):Option Str:=Ye 23 x (none) fun h=> @dG (fun _=>Option Str) x h fun x _=>some x
def isIt (H:List AO) (k:Nat) (P:Prop):Prop:=opt H[k]? fun o=>ok (RZ o) P
def HW (n:Nat) (Φ:Fm) (elt:Expr) (gens:List eG) (sc:gQ) (pos:Pos) (σ:St) (K:AV->St->Prop):Prop:=
 opt (PB gens) fun g=>opt (MS g.target) fun x=>ok (decide (g.is_async=0)) (ok (RT sc x) (ok (WV Φ sc) (ok (!isSet g.iter) (R.e n Φ g.iter σ fun a σ=>VO pos.line a σ fun k σ=>isIt σ.hp k
    (R.cp n (WN Φ sc) k σ.hp.length g.target x g.ifs elt pos.line ⟨[],σ.hp++ [.Z_ []],σ.os⟩ fun QW=>K (.loc σ.hp.length) ⟨σ.loc,QW.hp,QW.os⟩)))))
def CJ (n:Nat) (Φ:Fm) (e:Expr) (σ:St) (K:AV->St->Prop):Prop:=
 match e with
 | .Constant c _ _=>Ia c σ K
 | .Name x _=>CP T Φ x σ K
 | .Attribute v attr _=>ok (Vx v) (R.e n Φ v σ fun a σ=>w7 T a attr σ K)
 | .Subscript v s pos=>R.e n Φ v σ fun a σ=>R.e n Φ s σ fun b σ=>xX pos.line a b σ K
 | .Slice lo hi st _=>(match st with|none=>OE R n Φ lo σ fun lo σ=>OE R n Φ hi σ fun hi σ=>K (.Xr lo hi) σ|some _=>False)
 | .Call f args kw pos=>ok (noKw kw) (HY T R n Φ f args pos σ K)
 | .BinOp a op b pos=>R.e n Φ a σ fun u σ=>R.e n Φ b σ fun v σ=>xW pos.line op u v σ K
 | .UnaryOp op x _=>R.e n Φ x σ fun u σ=>nI op u σ K
 | .Compare a ops cs pos=>wZ R n Φ a ops cs σ K
 | .IfExp t b o _=>R.t n Φ t σ fun c σ=>match c with|true=>R.e n Φ b σ K|false=>R.e n Φ o σ K
 | .List elts pos=>R.es n Φ elts σ fun as σ=>Wc pos.line (small as.length) σ fun σ=>K (.loc σ.hp.length) {σ with hp:=σ.hp++ [tB as]}
 | .Tuple elts _ pos=>R.es n Φ elts σ fun as σ=>opt (I5 as) fun l=>Wc pos.line (small as.length) σ fun σ=>K (.d (.tup l)) σ
 | .Dict ks vs _=>(match ks,vs with| [],[]=>K (.loc σ.hp.length) {σ with hp:=σ.hp++ [.dict []]}|_,_=>False)
 | .ListComp elt gens sc pos=>(match MT pos.line σ.os with
  |some (r,H,os)=>MW G n Φ (.ListComp elt gens sc pos) σ.loc σ.hp r H/\K r ⟨σ.loc,H,os⟩
  |none=>HW R n Φ elt gens sc pos σ K)
 | .Lambda params body sc _=>w4 T Φ params body sc σ K
 |_=>False
def pair {α:Type}:List α->Option (α×α)| [a,b]=>some (a,b)|_=>none
def MR (n:Nat) (Φ:Fm) (a:Expr) (ops:List fW) (cs:List Expr) (l:Nat) (σ:St) (K:Bool->St->Prop):Prop:=
 match PB ops with
 |some op=>opt (PB cs) fun b=>ok (!isSet b) (R.e n Φ a σ fun u σ=>R.e n Φ b σ fun v σ=>IU op u v σ fun c σ=>KH l c σ K)
 |none=>opt (pair ops) fun op=>opt (pair cs) fun b=>ok (!isSet b.2) (R.e n Φ a σ fun u σ=>R.e n Φ b.1 σ fun v σ=>IU op.1 u v σ fun c σ=>KH l c σ fun t σ=>match t with
  |false=>K false σ
  |true=>R.e n Φ b.2 σ fun w σ=>IU op.2 v w σ fun c σ=>KH l c σ K)
def CI (n:Nat) (Φ:Fm) (op:BoolOp) (es:List Expr) (pos:Pos) (σ:St) (K:Bool->St->Prop):Prop:=
 match op,es with
 | .And,[]=>K true σ
 | .Or,[]=>K false σ
 | .And,x::r=>R.t n Φ x σ fun b σ=>match b with|true=>R.t n Φ (.BoolOp .And r pos) σ K|false=>K false σ
 | .Or,x::r=>R.t n Φ x σ fun b σ=>match b with|true=>K true σ|false=>R.t n Φ (.BoolOp .Or r pos) σ K
def wY:UnaryOp->Bool| .Not=>true|_=>false
def stepT (n:Nat) (Φ:Fm) (e:Expr) (σ:St) (K:Bool->St->Prop):Prop:=
 match e with
 | .UnaryOp op x _=>ok (wY op) (R.t n Φ x σ fun b σ=>K (!b) σ)
 | .BoolOp op es pos=>CI R n Φ op es pos σ K
 | .Compare a ops cs pos=>MR R n Φ a ops cs pos.line σ K
 | .IfExp .. =>False
 |e=>R.e n Φ e σ fun a σ=>KH e.pos.line a σ K
def AX (n:Nat) (Φ:Fm) (es:List Expr) (σ:St) (K:List AV->St->Prop):Prop:=
 match es with
 | []=>K [] σ
 |e::r=>ok (!ZD e) (R.e n Φ e σ fun a σ=>R.es n Φ r σ fun as σ=>K (a::as) σ)
def RP (n:Nat) (Φ:Fm) (ts vs:List Expr) (l:Nat) (σ:St) (K:Zk->St->Prop):Prop:=
 match zg Φ ts vs with
 |some none=>ok (!(ts.any ZD)) (R.es n Φ vs σ fun as σ=>ok (small as.length) (ok (gZ ts.length as.length) (R.ae n Φ ts as σ (K .next))))
 |some (some names)=>ok (XZ Φ.sc names) (R.es n Φ vs σ fun as σ=>ok (small as.length) (ok (gZ names.length as.length) (K .next {σ with loc:=R3 names as σ.loc})))
 |none=>False
def isLocal (o:Option gr):Bool:=match o with|some .local=>true|_=>false
def RO (n:Nat) (Φ:Fm) (y:Str) (py:Pos) (elt:Expr) (gens:List eG) (sc:gQ) (pos:Pos) (σ:St) (K:Zk->St->Prop):Prop:=
 opt (PB gens) fun g=>opt (MS g.target) fun x=>ok (isLocal (lk Φ.sc.names y)) (ok (gZ py.line pos.line) (ok (sc.names.all fun z=>match sq z.1 y with|true=>(match z.2 with| .local=>false| .cell=>false|_=>true)|false=>true)
   (ok (decide (g.is_async=0)) (ok (RT sc x) (ok (WV Φ sc) (ok (!isSet g.iter) (R.e n Φ g.iter σ fun a σ=>VO pos.line a σ fun k σ=>isIt σ.hp k
    (R.cp n (WN Φ sc) k σ.hp.length g.target x g.ifs elt pos.line ⟨[],σ.hp++ [.Z_ []],σ.os⟩ fun QW=>K .next ⟨Mine.put σ.loc y (.loc σ.hp.length),QW.hp,QW.os⟩))))))))
def HV (x:Expr):Option (List Expr):=Ye 25 x (none) fun h=> @cV (fun _=>Option (List Expr)) x h fun l _ _=>some l
def PA (x:Expr):Option (Expr×List eG×gQ×Pos):=Ye 8 x (none) fun h=> @cU (fun _=>Option (Expr×List eG×gQ×Pos)) x h fun e g s p=>some (e,g,s,p)
def asName (x:Expr):Option (Str×Pos):=Ye 23 x (none) fun h=> @dG (fun _=>Option (Str×Pos)) x h fun x p=>some (x,p)
def Pz (n:Nat) (Φ:Fm) (t value:Expr) (l:Nat) (σ:St) (K:Zk->St->Prop):Prop:=
 match isTup t && PK value with
 |true=>opt (HV t) fun ts=>opt (HV value) fun vs=>RP R n Φ ts vs l σ K
 |false=>(match PA value with
  |some c=>opt (asName t) fun y=>RO R n Φ y.1 y.2 c.1 c.2.1 c.2.2.1 c.2.2.2 σ K
  |none=>ok (!Ul value) (ok (!ZD t) (R.e n Φ value σ fun a σ=>R.a n Φ t a σ (K .next))))
def CH (n:Nat) (Φ:Fm) (s:Stmt) (σ:St) (K:Zk->St->Prop):Prop:=
 match s with
 | .Expr e _=>ok (!Ul e) (R.e n Φ e σ fun _ σ=>K .next σ)
 | .Pass _=>K .next σ
 | .Break _=>K .brk σ
 | .Continue _=>K .cont σ
 | .Return v _=>(match v with|none=>K (.ret (.d .none)) σ|some e=>R.e n Φ e σ fun a σ=>K (.ret a) σ)
 | .If t b o _=>R.t n Φ t σ fun c σ=>match c with|true=>R.ss n Φ b σ K|false=>R.ss n Φ o σ K
 | .Assign ts v pos=>opt (PB ts) fun t=>Pz R n Φ t v pos.line σ K
 | .For t iter body orelse pos=>(match cutAt pos.line σ.os with
  |some (fl,loc,H,os)=>Wb G n Φ (.For t iter body orelse pos) σ.loc σ.hp fl loc H/\K fl ⟨loc,H,os⟩
  |none=>(match orelse with
   | []=>ok (!isSet iter) (R.e n Φ iter σ fun a σ=>VO pos.line a σ fun k σ=>R.lp n Φ k t body σ K)
   |_=>False))
 | .While test body orelse pos=>(match cutAt pos.line σ.os with
  |some (fl,loc,H,os)=>Wb G n Φ (.While test body orelse pos) σ.loc σ.hp fl loc H/\K fl ⟨loc,H,os⟩
  |none=>(match orelse with| []=>R.wh n Φ test body σ K|_=>False))
 | .Try body handlers orelse fin pos=>(match cutAt pos.line σ.os with
  |some (fl,loc,H,os)=>Wb G n Φ (.Try body handlers orelse fin pos) σ.loc σ.hp fl loc H/\K fl ⟨loc,H,os⟩
  |none=>False)
 |_=>False
def AW (n:Nat) (Φ:Fm) (ss:List Stmt) (σ:St) (K:Zk->St->Prop):Prop:=
 match ss with
 | []=>K .next σ
 |s::r=>R.s n Φ s σ fun fl σ=>match fl with| .next=>R.ss n Φ r σ K|fl=>K fl σ
def wW:D->Option (List D)| .tup l=>some l|_=>none
def CG (n:Nat) (Φ:Fm) (t:Expr) (a:AV) (σ:St) (K:St->Prop):Prop:=
 match t with
 | .Name x _=>opt (lk Φ.sc.names x) fun k=>(match k with
  | .local=>K {σ with loc:=Mine.put σ.loc x a}
  | .cell=>opt (lk Φ.cm x) fun i=>opt σ.hp[i]? fun o=>opt (MV o) fun _=>K {σ with hp:=σ.hp.set i (.cell (some a))}
  |_=>False)
 | .Attribute o attr _=>R.e n Φ o σ fun b σ=>w6 T b attr a σ K
 | .Subscript o i pos=>R.e n Φ o σ fun b σ=>R.e n Φ i σ fun c σ=>xH pos.line b c a σ K
 | .Tuple ts _ _=>opt (x7 a) fun d=>opt (wW d) fun l=>ok (!(ts.any ZD)) (ok (gZ ts.length l.length) (R.ae n Φ ts (l.map .d) σ K))
 |_=>False
def HU (n:Nat) (Φ:Fm) (ts:List Expr) (as:List AV) (σ:St) (K:St->Prop):Prop:=
 match ts,as with
 | [],[]=>K σ
 |t::ts,a::as=>ok (!ZD t) (R.a n Φ t a σ fun σ=>R.ae n Φ ts as σ K)
 |_,_=>False
def MQ (n:Nat) (Φ:Fm) (k:Nat) (t:Expr) (body:List Stmt) (σ:St) (K:Zk->St->Prop):Prop:=
 zf k t σ (K .next) fun a σ=>R.a n Φ t a σ fun σ=>R.ss n Φ body σ (Yl K fun σ=>R.lp n Φ k t body σ K)
def MP (n:Nat) (Φ:Fm) (test:Expr) (body:List Stmt) (σ:St) (K:Zk->St->Prop):Prop:=
 R.t n Φ test σ fun b σ=>match b with|false=>K .next σ|true=>R.ss n Φ body σ (Yl K fun σ=>R.wh n Φ test body σ K)
def qo (n:Nat) (Φ:Fm) (ifs:List Expr) (σ:St) (K:Bool->St->Prop):Prop:=match ifs with| []=>K true σ| [c]=>R.t n Φ c σ K|_=>False
def MO (n:Nat) (Φ:Fm) (k ka:Nat) (t:Expr) (x:Str) (ifs:List Expr) (elt:Expr) (l:Nat) (σ:St) (Kd:St->Prop):Prop:=
 zf k t σ Kd fun a σ=>qo R n Φ ifs {σ with loc:=Mine.put σ.loc x a} fun b σ=>match b with
  |false=>R.cp n Φ k ka t x ifs elt l σ Kd
  |true=>R.e n Φ elt σ fun e σ=>xR l .Yi [.loc ka,e] σ fun _ σ=>R.cp n Φ k ka t x ifs elt l σ Kd
def step:Ev:=⟨CJ G T R,stepT R,AX R,CH G R,AW R,CG T R,HU R,xC G T R,MQ R,MP R,MO R⟩
end
def ev (G:Gm) (T:Tb) (f:Nat):Ev:=Nat.rec ng (fun _ R=>step G T R) f
structure Ue (G:Gm) (R:Ev):Prop where
 e:∀{n Φ e σ K},R.e n Φ e σ K->Zd G n Φ e σ K Zn
 t:∀{n Φ e σ K},R.t n Φ e σ K->V5 G n Φ e σ K Zn
 es:∀{n Φ es σ K},R.es n Φ es σ K->SR G n Φ es σ K Zn
 s:∀{n Φ s σ K},R.s n Φ s σ K->We G n Φ s σ K Zn
 ss:∀{n Φ ss σ K},R.ss n Φ ss σ K->X0 G n Φ ss σ K Zn
 a:∀{n Φ t a σ K},R.a n Φ t a σ K->Rg G n Φ t a σ K Zn
 ae:∀{n Φ ts as σ K},R.ae n Φ ts as σ K->IB G n Φ ts as σ K Zn
 c:∀{n l f as σ K},R.c n l f as σ K->Ve G n f as σ K Zn
structure MN (G:Gm) (R:Ev):Prop where
 lp:∀{n Φ k t body σ K},R.lp n Φ k t body σ K->Kw G n Φ k t body σ K
 wh:∀{n Φ test body pos σ K},R.wh n Φ test body σ K->We G n Φ (.While test body [] pos) σ K Zn
 cp:∀{n Φ k ka t x ifs elt l σ Kd},R.cp n Φ k ka t x ifs elt l σ Kd->∃(Inv:Nat->St->Prop) (c:Nat),Inv c σ/\∀c σ,Inv c σ->JL G n k t σ Kd fun a ZH=>A1 G n Φ ifs {ZH with loc:=Mine.put ZH.loc x a} fun b Tc=>match b with
    |false=>∃c',c'<c/\Inv c' Tc
    |true=>Zd G n Φ elt Tc (fun e σ3=>Ve G n (.bi .Yi) [.loc ka,e] σ3 (fun _ FZ=>∃c',c'<c/\Inv c' FZ) Zn) Zn
section
variable {G:Gm}{T:Tb}{R:Ev}{n:Nat}{Φ:Fm}{σ:St}
theorem nb {b:Bool}(h:(!b)=true):b=false:=by cases b;rfl;cases h
theorem Rg.imp {t:Expr}{a:AV}{K K':St->Prop}(x:Rg G n Φ t a σ K Zn) (i:∀σ,K σ->K' σ):Rg G n Φ t a σ K' Zn:=fun _ _ _ _ he r=>Pt.imp (x he r) (fun _ σ k=>i σ k) fun _ _ f=>f
theorem Zd.to {e:Expr}{K K':AV->St->Prop}(x:Zd G n Φ e σ K Zn) (i:∀a σ,K a σ->K' a σ):Zd G n Φ e σ K' Zn:=J.imp x i fun _ _ f=>f
theorem V5.to {e:Expr}{K K':Bool->St->Prop}(x:V5 G n Φ e σ K Zn) (i:∀a σ,K a σ->K' a σ):V5 G n Φ e σ K' Zn:=J.imp x i fun _ _ f=>f
theorem X0.to {e:List Stmt}{K K':Zk->St->Prop}(x:X0 G n Φ e σ K Zn) (i:∀a σ,K a σ->K' a σ):X0 G n Φ e σ K' Zn:=J.imp x i fun _ _ f=>f
theorem We.to {e:Stmt}{K K':Zk->St->Prop}(x:We G n Φ e σ K Zn) (i:∀a σ,K a σ->K' a σ):We G n Φ e σ K' Zn:=J.imp x i fun _ _ f=>f
theorem SR.to {e:List Expr}{K K':List AV->St->Prop}(x:SR G n Φ e σ K Zn) (i:∀a σ,K a σ->K' a σ):SR G n Φ e σ K' Zn:=fun pos=>J.imp (x pos) i fun _ _ f=>f
theorem Q9.to {ι α:Type}{RR:Wd->ι->α->Prop}{t:h_->Sem α}{a:AV}{K K':ι->St->Prop}(x:Q9 G n RR t a σ K Zn) (i:∀a σ,K a σ->K' a σ):Q9 G n RR t a σ K' Zn:=fun _ _ _ _ r=>Pt.imp (x r) i fun _ _ f=>f
theorem Nj.to {ι α:Type}{RR:Wd->ι->α->Prop}{t:h_->h_->Sem α}{a b:AV}{K K':ι->St->Prop}(x:Nj G n RR t a b σ K Zn) (i:∀a σ,K a σ->K' a σ):Nj G n RR t a b σ K' Zn:=fun _ _ _ _ _ r r'=>Pt.imp (x r r') i fun _ _ f=>f
theorem Ve.to {f:AV}{as:List AV}{K K':AV->St->Prop}(x:Ve G n f as σ K Zn) (i:∀a σ,K a σ->K' a σ):Ve G n f as σ K' Zn:=fun _ _ _ _ _ r r'=>Pt.imp (x r r') i fun _ _ f=>f
theorem Yl.to {K:Zk->St->Prop}{P P':St->Prop}(i:∀σ,P σ->P' σ) {fl:Zk}{σ:St}(h:Yl K P fl σ):Yl K P' fl σ:=by cases fl<;>first|exact i _ h|exact h
theorem CF {ι α:Type}{RR:Wd->ι->α->Prop}{L:Addr}{fs:Frs}{ω:Wd}{t:Sem α}{l:Nat}{b:Bool}{P:St->Prop}{K:ι->St->Prop}{X:XK}(h:Wc l b σ P) (i:∀σ,b=true->P σ->Pt G n RR L fs ω t σ K X):Pt G n RR L fs ω t σ K X:=fun _ _ hA R=>by
 obtain ⟨e,os,h⟩:=Nb h
 exact i _ e h hA R
theorem Qx {o:AO}{a:Option AV}(h:MV o=some a):o= .cell a:=by
 cases o with
 |cell=>exact congrArg _ (gj h)
 |_=>exact Xd h
theorem Qw {o:AO}{p:Addr×List (Str×AV)}(h:MU o=some p):o= .inst p.1 p.2:=by
 cases o with
 |inst=>cases h;rfl
 |_=>exact Xd h
theorem OC {k:gr}{x:Str}{pos:Pos}{K:AV->St->Prop}(hk:k= .cell\/k= .free) (hl:lk Φ.sc.names x=some k) (hd:sq x ("__debug__" :Str)=false) (h:H_ Φ x σ K):Zd G n Φ (.Name x pos) σ K Zn:=by
 obtain ⟨hn,h⟩:=ZS h
 obtain ⟨i,hi,h⟩:=Z3 h
 obtain ⟨o,ho,h⟩:=Z3 h
 obtain ⟨a,ha,h⟩:=Z3 h
 obtain ⟨a,rfl,h⟩:=Z3 h
 rw[Qx ha] at ho
 (exact BA (by rcases hk with rfl|rfl;exact .inl hl;exact .inr hl) hi ho hd (nb hn) h)
theorem HT (hT:ZY G T) {x:Str}{pos:Pos}{K:AV->St->Prop}(h:CP T Φ x σ K):Zd G n Φ (.Name x pos) σ K Zn:=by
 obtain ⟨hd,h⟩:=ZS h
 have hd:=nb hd
 obtain ⟨k,hl,h⟩:=Z3 h
 cases k with
 | «local»=>obtain ⟨a,ha,h⟩:=Z3 h;(exact Fl hl ha hd h)
 |cell=>(exact OC (.inl rfl) hl hd h)
 |free=>(exact OC (.inr rfl) hl hd h)
 |globalImplicit=>obtain ⟨a,ha,h⟩:=Z3 h;(exact Ji hl (hT.gl _ _ ha) hd h)
 |_=>exact @gV _ h
theorem Ew (hT:ZY G T) {a:AV}{attr:Str}{K:AV->St->Prop}(h:w7 T a attr σ K):Q9 G n RV (fun u=>getAttr u attr true) a σ K Zn:=fun L fs ω u ru=>by
 apply U4 h ru
 intro i h ru
 obtain ⟨o,hi,h⟩:=Z3 h
 obtain ⟨p,e,h⟩:=Z3 h
 obtain ⟨c,hc,h⟩:=Z3 h
 obtain ⟨b,hb,h⟩:=Z3 h
 obtain ⟨hm,h⟩:=ZS h
 rw[Qw e] at hi
 exact yb hi hb ((hT.cl _ _ hc).2.2.2 _ hm).1 h ru
theorem Eu (hT:ZY G T) {a b:AV}{attr:Str}{K:St->Prop}(h:w6 T a attr b σ K):Nj G n RU (fun u v=>fj u attr v) a b σ (fun _=>K) Zn:=fun L fs ω u v ru rv=>by
 apply U4 h ru
 intro i h ru
 obtain ⟨o,hi,h⟩:=Z3 h
 obtain ⟨p,e,h⟩:=Z3 h
 obtain ⟨c,hc,h⟩:=Z3 h
 obtain ⟨hm,h⟩:=ZS h
 obtain ⟨hz,h⟩:=ZS h
 rw[Qw e] at hi
 exact Bq hi ((hT.cl _ _ hc).2.2.2 _ hm).2 hz h ru rv
theorem HS {P:Addr}{q:Str}{o:AO}(h:HX P q o=true):o= .tab P q:=by
 cases o with
 |tab P' q'=>obtain ⟨e1,e2⟩:=U6 h;rw[e_ e1,Zv.mp e2]
 |_=>cases h
theorem HR {P:Addr}{q:Str}{H:List AO}:∀{i:Nat},OD P q H=some i->H[i]?=some (.tab P q):=by
 induction H with
 |nil=>intro i h;exact Xd h
 |cons o r ih=>
  intro i h
  unfold OD at h
  cases e:HX P q o with
  |true=>rw[e] at h;cases h;rw[HS e];rfl
  |false=>
   rw[e] at h
   cases e':OD P q r with
   |none=>rw[e'] at h;exact Xd h
   |some j=>rw[e'] at h;cases h;exact ih e'
theorem Et (hT:ZY G T) {params:dH}{body:Expr}{sc:gQ}{pos:Pos}{K:AV->St->Prop}(h:w4 T Φ params body sc σ K):Zd G n Φ (.Lambda params body sc pos) σ K Zn:=by
 obtain ⟨c,hcd,h⟩:=Z3 h
 obtain ⟨P,hP,h⟩:=Z3 h
 obtain ⟨i,hi,h⟩:=Z3 h
 obtain ⟨hf,h⟩:=ZS h
 obtain ⟨ps,hps,h⟩:=Z3 h
 (exact Ib hps hcd (hT.tb _ _ hP) (HR hi) hf h)
theorem OB {v:h_}{a:Nat}(h:isRef v=some a):v= .ref a:=by
 cases v with
 |ref=>exact congrArg _ (gj h)
 |_=>exact Xd h
theorem OA (hT:ZY G T) {f:AV}(h:calls T f=true):YC G f:=by
 cases f with
 |bi=>exact YC.bi
 |YV=>exact YC.YV
 |Z8 v=>
  have h:(match isRef v with|some a=>(match Ux T.fn a with|some _=>true|none=>(Ux T.cl a).isSome)|none=>false)=true:=h
  cases e:isRef v with
  |none=>rw[e] at h;cases h
  |some a=>
   rw[e] at h
   rw[OB e]
   have h:(match Ux T.fn a with|some _=>true|none=>(Ux T.cl a).isSome)=true:=h
   cases hf:Ux T.fn a with
   |some fn=>exact @YC.Z8 _ _ (hT.fn _ _ hf).2
   |none=>
    rw[hf] at h
    obtain ⟨c,hc⟩:=bM.mp h
    exact @YC.Z8 _ _ (hT.cl _ _ hc).2.1
 |_=>cases h
theorem Wn {α:Type}{y x:Str}{v b:α}{r:List (Str×α)}(h:lk ((y,v)::r) x=some b):(y=x/\v=b)\/lk r x=some b:=by
 unfold lk at h
 cases e:sq y x with
 |true=>rw[e] at h;cases h;exact .inl ⟨Zv.mp e,rfl⟩
 |false=>rw[e] at h;exact .inr h
theorem Es {i:Nat}{C f:Addr}{y x:Str}{l:List AV}(hi:σ.hp[i]?=some (.mb C y l)) (hx:sq y x=false) (hr:W3 G.K C x f=true) (hh:dM (.ref f)=true:=by rfl):C1 G n (.loc i) x σ (.Z8 (.ref f)) [.loc i]:=fun L fr ω u pl A h r hA R Q X' q=>by
 obtain ⟨ad,m,rest,rfl,S,_⟩:=R.at hi r
 have S:=S.conv (Q:=fun V=>∃sp,VW ad C 1 (fun z=>if z=y then some (.ref sp) else none) V) fun V ⟨sp,vs,V1,V2,d,l1,l2,rr,⟨dd,i,es,nn,a,D⟩,_⟩=>⟨sp,dd,l1 _ _ i,es,nn,l1 _ _ a,D⟩
 obtain ⟨sp,S⟩:=S.ex
 refine O1 G.Z S hr (if_neg fun e=> ?_) (q _ _ ⟨rfl,hh⟩ ⟨_,[],rfl,r,rfl⟩)
 rw[Zv.mpr e.symm] at hx;cases hx
theorem CE {i:Nat}{o:AO}{name:Str}{b:BI}(hi:σ.hp[i]?=some o) (hl:Vc o=true) (hb:lk Ug name=some b):C1 G n (.loc i) name σ (.bi b) [.loc i]:=by
 rcases Wn hb with ⟨rfl,rfl⟩|hb
 ·(exact UK hi hl PySem.F.slot_list_append PySem.F.type_list_append rfl)
 rcases Wn hb with ⟨rfl,rfl⟩|hb
 ·(exact UK hi hl PySem.F.slot_list_pop PySem.F.type_list_pop rfl)
 rcases Wn hb with ⟨rfl,rfl⟩|hb
 ·(exact UK hi hl PySem.F.slot_list_insert PySem.F.type_list_insert rfl)
 rcases Wn hb with ⟨rfl,rfl⟩|hb
 ·(exact UK hi hl PySem.F.slot_list_remove PySem.F.type_list_remove rfl)
 rcases Wn hb with ⟨rfl,rfl⟩|hb
 ·(exact UK hi hl PySem.F.slot_list_extend PySem.F.type_list_extend rfl)
 cases hb
theorem HQ (hT:ZY G T) {a:AV}{name:Str}{k:AV->List AV->Prop}(h:CN T a name σ.hp k):∃f first,C1 G n a name σ f first/\k f first:=by
 cases a with
 |loc i=>
  obtain ⟨o,hi,h⟩:=Z3 h
  cases o with
  |inst C fs=>
   obtain ⟨c,hc,h⟩:=Z3 h
   obtain ⟨hx,h⟩:=ZS h
   obtain ⟨f,hf,h⟩:=Z3 h
   obtain ⟨_,_,h⟩:=Z3 h
   refine⟨_,_,?_,h⟩
   (exact Fb hi (by cases q:lk fs name;rfl;rw[q] at hx;cases hx) ((hT.cl _ _ hc).2.2.1 _ _ hf))
  |mb C y l=>
   obtain ⟨c,hc,h⟩:=Z3 h
   obtain ⟨hx,h⟩:=ZS h
   obtain ⟨f,hf,h⟩:=Z3 h
   obtain ⟨_,_,h⟩:=Z3 h
   refine⟨_,_,?_,h⟩
   (exact Es hi (nb hx) ((hT.cl _ _ hc).2.2.1 _ _ hf))
  |dict d=>
   obtain ⟨e,h⟩:=ZS h
   cases Zv.mp e
   refine⟨_,_,?_,h⟩
   (exact ED hi)
  |list l=>obtain ⟨b,hb,h⟩:=Z3 h;exact⟨_,_,CE hi rfl hb,h⟩
  |Z_ l=>obtain ⟨b,hb,h⟩:=Z3 h;exact⟨_,_,CE hi rfl hb,h⟩
  |_=>exact gV h
 |d x=>
  obtain ⟨s,e,h⟩:=Z3 h
  obtain ⟨b,hb,hf⟩:=Z3 h
  cases CV e
  refine⟨_,_,?_,hf⟩
  rcases Wn hb with ⟨rfl,rfl⟩|hb
  ·(exact LV PySem.F.slot_str_lower PySem.F.type_str_lower rfl)
  rcases Wn hb with ⟨rfl,rfl⟩|hb
  ·(exact LV PySem.F.slot_str_join PySem.F.type_str_join rfl)
  cases hb
 |_=>exact gV h
theorem Oz (S:Ue G R) {o:Option Expr}{K:Option Int->St->Prop}(h:OE R n Φ o σ K):CX G n Φ o σ K Zn:=by
 cases o with
 |none=>exact h
 |some e=>(refine Zd.to (S.e h) ?_;rintro a σ h;obtain ⟨i,e,h⟩:=Z3 h;exact⟨i,VR e,h⟩)
theorem CX.to {o:Option Expr}{K K':Option Int->St->Prop}(x:CX G n Φ o σ K Zn) (i:∀a σ,K a σ->K' a σ):CX G n Φ o σ K' Zn:=by
 cases o with
 |none=>exact i _ _ x
 |some e=>(exact Zd.to x fun a σ ⟨j,e,k⟩=>⟨j,e,i _ _ k⟩)
theorem Ox (S:Ue G R) {es:List Expr}{K:List AV->St->Prop}(h:HZ R n Φ es σ K):UO G n Φ es σ K Zn:=by
 cases es with
 |nil=>exact h
 |cons e r=>exact S.es h
theorem UO.to {es:List Expr}{K K':List AV->St->Prop}(x:UO G n Φ es σ K Zn) (i:∀a σ,K a σ->K' a σ):UO G n Φ es σ K' Zn:=by
 cases es with
 |nil=>exact i _ _ x
 |cons e r=>exact SR.to x i
theorem Kp {f:Expr}{p:Expr×Str×Pos}(h:PD f=some p):f= .Attribute p.1 p.2.1 p.2.2:=by
 obtain ⟨q,h⟩:=US h
 exact @cY (fun x=>∀q:x.ctorIdx=20,@cY (fun _=>Option (Expr×Str×Pos)) x q (fun o name p=>some (o,name,p))=some p->x= .Attribute p.1 p.2.1 p.2.2) f q (fun a b c _ e=>by cases e;rfl) q h
theorem Ko {f:Expr}(h:PD f=none):Up f=false:=FE h fun q=> @cY (fun x=>∀q:x.ctorIdx=20,@cY (fun _=>Option (Expr×Str×Pos)) x q (fun o name p=>some (o,name,p))≠none) f q (fun a b c _ e=>by cases e) q
theorem HP (hT:ZY G T) (S:Ue G R) {f:Expr}{args:List Expr}{pos:Pos}{K:AV->St->Prop}(h:HY T R n Φ f args pos σ K):Zd G n Φ (.Call f args [] pos) σ K Zn:=by
 unfold HY at h
 cases e:PD f with
 |some p=>
  rw[e] at h
  rw[Kp e]
  obtain ⟨h1,h⟩:=ZS h
  obtain ⟨h2,h⟩:=ZS h
  have ha:args.any ZD=false:=nb (g6.mp (g6.mp h2).1).1
  (refine Bo (Zd.to (S.e h) ?_) h1 h2 ha;rintro a σ h)
  obtain ⟨fv,first,m,h⟩:=HQ hT h
  obtain ⟨hc,h⟩:=ZS h
  exact⟨fv,first,OA hT hc,m,UO.to (Ox S h) fun as σ h=>S.c h⟩
 |none=>
  rw[e] at h
  obtain ⟨h1,h⟩:=ZS h
  (refine PY (Zd.to (S.e h) ?_) (Ko e) (nb h1);rintro fv σ h)
  obtain ⟨hc,h⟩:=ZS h
  exact⟨OA hT hc,UO.to (Ox S h) fun as σ h=>S.c h⟩
set_option tactic.hygienic true in
theorem Qv (hT:ZY G T) (S:Ue G R) {a:Nat}{fn:Fn}{as:List AV}{K:AV->St->Prop}(hf:Ux T.fn a=some fn) (h:PC R n fn as σ K):P4 G (n+1) a as σ K Zn:=by
 unfold PC at h
 obtain ⟨h1,h⟩:=ZS h
 have hl:=e_ h1
 split at h
 ·rename_i hc
  obtain ⟨h2,h⟩:=ZS h
  (exact Mb (hT.fn _ _ hf).1 hl hc h2 (S.ss h))
 ·obtain ⟨h2,h⟩:=ZS h
  obtain ⟨h3,h⟩:=ZS h
  obtain ⟨h4,h⟩:=ZS h
  (exact Jb (hT.fn _ _ hf).1 hl (by cases q:fn.ex with|nil=>rfl|cons=>rw[q] at h2;cases h2) h3 h4 (S.ss h))
theorem AU {a:AV}(h:m_ a=true):a= .d .none:=L4 h
theorem HO (hT:ZY G T) (S:Ue G R) {a:Nat}{as:List AV}{K:AV->St->Prop}(h:CM T R n a as σ K):Ve G n (.Z8 (.ref a)) as σ K Zn:=by
 obtain ⟨c,hc,h⟩:=Z3 h
 cases n with
 |zero=>exact @gV _ h
 |succ n=>cases n with
  |zero=>exact @gV _ h
  |succ n=>
   obtain ⟨fn,hf,h⟩:=Z3 h
   (refine P4.cl (Bm (hT.cl _ _ hc).1 (P4.imp (Qv hT S hf h) (fun r ZH h=> ?_) fun _ _ f=>f)))
   obtain ⟨e,h⟩:=ZS h
   exact⟨AU e,h⟩
theorem HN (hT:ZY G T) (S:Ue G R) {v:h_}{as:List AV}{K:AV->St->Prop}(h:CL T R n v as σ K):Ve G n (.Z8 v) as σ K Zn:=by
 obtain ⟨a,e,h⟩:=Z3 h
 rw[OB e]
 cases hf:Ux T.fn a with
 |some fn=>
  rw[hf] at h
  cases n with
  |zero=>exact @gV _ h
  |succ n=>(exact P4.cl (Qv hT S hf h))
 |none=>rw[hf] at h;(exact HO hT S h)
theorem wV (hT:ZY G T) (S:Ue G R) {l:Nat}{f:AV}{as:List AV}{K:AV->St->Prop}(h:xC G T R n l f as σ K):Ve G n f as σ K Zn:=by
 unfold xC at h
 cases e:CK l σ.os with
 |some p=>
  rw[e] at h
  obtain ⟨r0,H0,Yq⟩:=p
  obtain ⟨h1,h2⟩:=h
  exact fun L fs ω fv vs r r'=> @fun A h hA R=>((h1 σ.loc Yq) r r' hA R).mono (fun _ _ p=>p.imp fun a ZH ⟨e1,e2⟩=>by subst e1;subst e2;exact h2) fun _ _ p=>p
 |none=>
  rw[e] at h
  cases f with
  |bi=>(exact Um h)
  |Z8=>(exact HN hT S h)
  |YV=>
   cases n with
   |zero=>exact @gV _ h
   |succ n=>
    obtain ⟨h1,h⟩:=ZS h
    obtain ⟨h2,h⟩:=ZS h
    (refine xg (e_ h1) h2 (Zd.to (S.e h) ?_);rintro a σ h;exact h)
  |_=>exact @gV _ h
theorem Km {c:Const}{k:Nat}{pos:Pos}{K:AV->St->Prop}(h:Ia c σ K):Zd G n Φ (.Constant c k pos) σ K Zn:=by
 cases c with
 |none=>(exact SQ (c:= .none) (x:= .none) rfl h)
 |bool=>(exact SQ (c:= .bool _) (x:= .bool _) rfl h)
 |int=>(exact SQ (c:= .int _) (x:= .int _) rfl h)
 |str=>(exact SQ (c:= .str _) (x:= .str _) rfl h)
 |_=>exact @gV _ h
theorem Wm {α:Type}{l:List α}{a:α}(h:PB l=some a):l= [a]:=by
 cases l with
 |nil=>exact Xd h
 |cons x r=>cases r with
  |nil=>cases h;rfl
  |cons=>exact Xd h
theorem Er (S:Ue G R) {a:Expr}{ops:List fW}{cs:List Expr}{pos:Pos}{K:AV->St->Prop}(h:wZ R n Φ a ops cs σ K):Zd G n Φ (.Compare a ops cs pos) σ K Zn:=by
 obtain ⟨op,e,h⟩:=Z3 h
 obtain ⟨b,e',h⟩:=Z3 h
 obtain ⟨h1,h⟩:=ZS h
 rw[Wm e,Wm e']
 (refine yk (Zd.to (S.e h) ?_) (nb h1);rintro u σ h;refine Zd.to (S.e h) ?_;rintro v σ h;exact SM h)
theorem Qu {t:Expr}{x:Str}(h:MS t=some x):∃p,t= .Name x p:=by
 obtain ⟨q,h⟩:=US h
 exact @dG (fun t=>∀q:t.ctorIdx=23,@dG (fun _=>Option Str) t q (fun x _=>some x)=some x->∃p,t= .Name x p) t q (fun a b _ e=>by cases e;exact⟨_,rfl⟩) q h
inductive jQ (H:List AO) (k:Nat) (P:Prop):Prop
 |mk (o:AO) (e:H[k]?=some o) (s:RZ o=true) (h:P)
theorem LJ {H:List AO}{k:Nat}{P:Prop}(h:isIt H k P):jQ H k P:=by
 obtain ⟨o,e,h⟩:=Z3 h
 obtain ⟨s,h⟩:=ZS h
 exact⟨o,e,s,h⟩
theorem LI {α:Type}{l:List α}{a:α×α}(h:pair l=some a):l= [a.1,a.2]:=by
 cases l with
 |nil=>exact Xd h
 |cons x r=>cases r with
  |nil=>exact Xd h
  |cons y r=>cases r with
   |nil=>cases h;rfl
   |cons=>exact Xd h
theorem HM {g:eG}{x:Str}{p:Pos}(h:g.target= .Name x p) (h':g.is_async=0):g=⟨.Name x p,g.iter,g.ifs,0⟩:=by
 cases g;cases h;cases h';rfl
theorem HL (S:Ue G R) (SL:MN G R) {elt:Expr}{gens:List eG}{sc:gQ}{pos:Pos}{K:AV->St->Prop}(h:HW R n Φ elt gens sc pos σ K):Zd G n Φ (.ListComp elt gens sc pos) σ K Zn:=by
 obtain ⟨g,e,h⟩:=Z3 h
 obtain ⟨x,hx,h⟩:=Z3 h
 obtain ⟨p,hp⟩:=Qu hx
 obtain ⟨h0,h⟩:=ZS h
 obtain ⟨h1,h⟩:=ZS h
 obtain ⟨h2,h⟩:=ZS h
 obtain ⟨h3,h⟩:=ZS h
 rw[hp] at h
 rw[Wm e,HM hp (of_decide_eq_true h0)]
 (refine Ii h1 h2 (nb h3) (Zd.to (S.e h) ?_);rintro a σ h;refine Q9.to (XC h) ?_;rintro b ZW ⟨k,e,h⟩)
 obtain ⟨o,ho,hs,h⟩:=LJ h
 obtain ⟨Inv,c,q0,q⟩:=SL.cp h
 exact⟨k,o,e,ho,hs,Inv,c,q0,q⟩
theorem MM {o:Option gr}(h:isLocal o=true):o=some .local:=by
 cases o with
 |none=>cases h
 |some k=>cases k<;>first|rfl|cases h
theorem Ow (S:Ue G R) (SL:MN G R) {y:Str}{py:Pos}{elt:Expr}{gens:List eG}{sc:gQ}{pos spos:Pos}{K:Zk->St->Prop}(h:RO R n Φ y py elt gens sc pos σ K):We G n Φ (.Assign [.Name y py] (.ListComp elt gens sc pos) spos) σ K Zn:=by
 obtain ⟨g,e,h⟩:=Z3 h
 obtain ⟨x,hx,h⟩:=Z3 h
 obtain ⟨p,hp⟩:=Qu hx
 obtain ⟨g1,h⟩:=ZS h
 obtain ⟨g2,h⟩:=ZS h
 obtain ⟨g3,h⟩:=ZS h
 obtain ⟨h0,h⟩:=ZS h
 obtain ⟨h1,h⟩:=ZS h
 obtain ⟨h2,h⟩:=ZS h
 obtain ⟨h3,h⟩:=ZS h
 rw[hp] at h
 rw[Wm e,HM hp (of_decide_eq_true h0)]
 (refine LM (MM g1) g2 g3 h1 h2 (nb h3) (Zd.to (S.e h) ?_);rintro a σ h;refine Q9.to (XC h) ?_;rintro b ZW ⟨k,e,h⟩)
 obtain ⟨o,ho,hs,h⟩:=LJ h
 obtain ⟨Inv,c,q0,q⟩:=SL.cp h
 exact⟨k,o,e,ho,hs,Inv,c,q0,q⟩
theorem HJ (hT:ZY G T) (S:Ue G R) (SL:MN G R) {e:Expr}{K:AV->St->Prop}(h:CJ G T R n Φ e σ K):Zd G n Φ e σ K Zn:=by
 cases e with
 |Constant c k pos=>(exact Km h)
 |Name x pos=>(exact HT hT h)
 |Attribute v attr pos=>
  obtain ⟨h1,h⟩:=ZS h
  (refine Br (Zd.to (S.e h) ?_) h1;rintro a σ h;exact Ew hT h)
 |Subscript v s pos=>(refine xY (Zd.to (S.e h) ?_);rintro a σ h;refine Zd.to (S.e h) ?_;rintro b σ h;exact EW h)
 |Slice lo hi st pos=>
  cases st with
  |none=>
   have h:OE R n Φ lo σ (fun lo σ=>OE R n Φ hi σ fun hi σ=>K (.Xr lo hi) σ):=h
   (refine EZ (CX.to (Oz S h) ?_);rintro lo σ h;exact Oz S h)
  |some _=>exact gV h
 |Call f args kw pos=>
  obtain ⟨h1,h⟩:=ZS h
  cases kw with
  |nil=>(exact HP hT S h)
  |cons=>cases h1
 |BinOp a op b pos=>(refine Fk (Zd.to (S.e h) ?_);rintro a σ h;refine Zd.to (S.e h) ?_;rintro b σ h;exact ES h)
 |UnaryOp op x pos=>(refine By (Zd.to (S.e h) ?_);rintro a σ h;exact Be h)
 |Compare a ops cs pos=>(exact Er S h)
 |IfExp t b o pos=>(refine Fj (V5.to (S.t h) ?_);rintro c σ h;cases c<;>exact S.e h)
 |List elts pos=>(refine Bj (SR.to (S.es h) ?_);rintro as σ h;exact fun L fs ω vs r=>CF h fun σ e h=>KP e h r)
 |Tuple elts k pos=>
  (refine E4 (SR.to (S.es h) ?_);rintro as σ h;exact fun L fs ω vs r=>by obtain ⟨l,hl,h⟩:=Z3 h;exact CF h fun σ e h=>M_ hl e h r)
 |Dict ks vs pos=>
  cases ks with
  |nil=>
   cases vs with
   |nil=>(exact EE h)
   |cons=>exact gV h
  |cons=>exact gV h
 |Lambda params body sc pos=>(exact Et hT h)
 |ListComp elt gens sc pos=>
  have h':(match MT pos.line σ.os with
   |some (r,H,os)=>MW G n Φ (.ListComp elt gens sc pos) σ.loc σ.hp r H/\K r ⟨σ.loc,H,os⟩
   |none=>HW R n Φ elt gens sc pos σ K):=h
  cases e:MT pos.line σ.os with
  |some p=>
   rw[e] at h'
   obtain ⟨r0,H0,Yq⟩:=p
   obtain ⟨h1,h2⟩:=h'
   exact J.imp (h1 Yq) (fun a ZH ⟨e1,e2⟩=>by subst e1;subst e2;exact h2) fun _ _ f=>f
  |none=>rw[e] at h';(exact HL S SL h')
 |_=>exact gV h
theorem Kl (S:Ue G R) {a:Expr}{ops:List fW}{cs:List Expr}{pos:Pos}{l:Nat}{K:Bool->St->Prop}(h:MR R n Φ a ops cs l σ K):V5 G n Φ (.Compare a ops cs pos) σ K Zn:=by
 unfold MR at h
 cases e:PB ops with
 |some op=>
  rw[e] at h
  obtain ⟨b,e',h⟩:=Z3 h
  obtain ⟨h1,h⟩:=ZS h
  rw[Wm e,Wm e']
  (refine Bw (Zd.to (S.e h) ?_) (nb h1);rintro u σ h;refine Zd.to (S.e h) ?_;rintro v σ h;refine Nj.to (SM h) ?_;rintro c σ h;exact SK h)
 |none=>
  rw[e] at h
  obtain ⟨op,e,h⟩:=Z3 h
  obtain ⟨b,e',h⟩:=Z3 h
  obtain ⟨h1,h⟩:=ZS h
  rw[LI e,LI e']
  (refine Fi (Zd.to (S.e h) ?_) (nb h1);rintro u σ h;refine Zd.to (S.e h) ?_;rintro v σ h;refine Nj.to (SM h) ?_;rintro c σ h;refine Q9.to (SK h) ?_;rintro t σ h)
  cases t
  ·exact h
  ·(refine Zd.to (S.e h) ?_;rintro w σ h;refine Nj.to (SM h) ?_;rintro c σ h;exact SK h)
theorem HG (S:Ue G R) {op:BoolOp}{es:List Expr}{pos:Pos}{K:Bool->St->Prop}(h:CI R n Φ op es pos σ K):V5 G n Φ (.BoolOp op es pos) σ K Zn:=by
 cases op with
 |And=>cases es with
  |nil=>(exact Bv h)
  |cons=>(refine yd (V5.to (S.t h) ?_);rintro b σ h;cases b;exact h;exact S.t h)
 |Or=>cases es with
  |nil=>(exact ye h)
  |cons=>(refine rt (V5.to (S.t h) ?_);rintro b σ h;cases b;exact S.t h;exact h)
theorem HE (hT:ZY G T) (S:Ue G R) {e:Expr}{K:Bool->St->Prop}(h:stepT R n Φ e σ K):V5 G n Φ e σ K Zn:=by
 have plain:∀{e:Expr},Us e=true->(R.e n Φ e σ fun a σ=>KH e.pos.line a σ K)->V5 G n Φ e σ K Zn:=fun hp h=>by
  (refine Bx (Zd.to (S.e h) ?_) hp;rintro a σ h;exact SK h)
 cases e with
 |UnaryOp op x pos=>
  obtain ⟨h1,h⟩:=ZS h
  cases op<;>first|cases h1|skip
  (exact yf (S.t h))
 |BoolOp op es pos=>(exact HG S h)
 |Compare a ops cs pos=>(exact Kl S h)
 |IfExp=>exfalso;exact h
 |_=>(exact plain rfl h)
theorem Ov (S:Ue G R) {ts vs:List Expr}{k k2:Nat}{p p2 pos:Pos}{l:Nat}{K:Zk->St->Prop}(h:RP R n Φ ts vs l σ K):We G n Φ (.Assign [.Tuple ts k p] (.Tuple vs k2 p2) pos) σ K Zn:=by
 unfold RP at h
 cases hw:zg Φ ts vs with
 |none=>rw[hw] at h;exact @gV _ h
 |some o=>
  rw[hw] at h
  cases o with
  |none=>
   obtain ⟨h1,h⟩:=ZS h
   (refine Ky hw (nb h1) (SR.to (S.es h) ?_);rintro as σ h)
   obtain ⟨h2,h⟩:=ZS h
   obtain ⟨h3,h⟩:=ZS h
   exact⟨h2,e_ h3,S.ae h⟩
  |some names=>
   obtain ⟨h1,h⟩:=ZS h
   (refine Kx hw h1 (SR.to (S.es h) ?_);rintro as σ h)
   obtain ⟨h2,h⟩:=ZS h
   obtain ⟨h3,h⟩:=ZS h
   exact⟨h2,e_ h3,h⟩
theorem Ou {e:Expr}{l:List Expr}(h:HV e=some l):∃k p,e= .Tuple l k p:=by
 obtain ⟨q,h⟩:=US h
 exact @cV (fun e=>∀q:e.ctorIdx=25,@cV (fun _=>Option (List Expr)) e q (fun l _ _=>some l)=some l->∃k p,e= .Tuple l k p) e q (fun a b c _ e=>by cases e;exact⟨_,_,rfl⟩) q h
theorem Kh {e:Expr}{l:Expr×List eG×gQ×Pos}(h:PA e=some l):e= .ListComp l.1 l.2.1 l.2.2.1 l.2.2.2:=by
 obtain ⟨q,h⟩:=US h
 exact @cU (fun e=>∀q:e.ctorIdx=8,@cU (fun _=>Option (Expr×List eG×gQ×Pos)) e q (fun e g s p=>some (e,g,s,p))=some l->e= .ListComp l.1 l.2.1 l.2.2.1 l.2.2.2) e q (fun a b c d _ e=>by cases e;rfl) q h
theorem Kg {e:Expr}{l:Str×Pos}(h:asName e=some l):e= .Name l.1 l.2:=by
 obtain ⟨q,h⟩:=US h
 exact @dG (fun e=>∀q:e.ctorIdx=23,@dG (fun _=>Option (Str×Pos)) e q (fun x p=>some (x,p))=some l->e= .Name l.1 l.2) e q (fun a b _ e=>by cases e;rfl) q h
theorem ML (hT:ZY G T) (S:Ue G R) (SL:MN G R) {t v:Expr}{pos:Pos}{l:Nat}{K:Zk->St->Prop}(h:Pz R n Φ t v l σ K):We G n Φ (.Assign [t] v pos) σ K Zn:=by
 unfold Pz at h
 cases e:isTup t && PK v with
 |true=>
  rw[e] at h
  obtain ⟨ts,e1,h⟩:=Z3 h
  obtain ⟨vs,e2,hf⟩:=Z3 h
  obtain ⟨_,_,rfl⟩:=Ou e1
  obtain ⟨_,_,rfl⟩:=Ou e2
  (exact Ov S hf)
 |false=>
  rw[e] at h
  have h:(match PA v with
   |some c=>opt (asName t) fun y=>RO R n Φ y.1 y.2 c.1 c.2.1 c.2.2.1 c.2.2.2 σ K
   |none=>ok (!Ul v) (ok (!ZD t) (R.e n Φ v σ fun a σ=>R.a n Φ t a σ (K .next)))):=h
  cases e1:PA v with
  |some c=>
   rw[e1] at h
   obtain ⟨y,e2,h⟩:=Z3 h
   rw[Kh e1,Kg e2]
   (exact Ow S SL h)
  |none=>
   rw[e1] at h
   obtain ⟨h2,h⟩:=ZS h
   obtain ⟨h3,h⟩:=ZS h
   (refine R4 (nb h2) e (nb h3) (Zd.to (S.e h) ?_);rintro a σ h;exact S.a h)
theorem MK {s:Stmt}{o:Option (Zk×List (Str×AV)×List AO×List Gh)}{P:Prop}{K:Zk->St->Prop}(h:match o with
  |some (fl,loc,H,os)=>Wb G n Φ s σ.loc σ.hp fl loc H/\K fl ⟨loc,H,os⟩
  |none=>P) (f:P->We G n Φ s σ K Zn):We G n Φ s σ K Zn:=by
 cases o with
 |some p=>
  obtain ⟨f0,l0,H0,Yq⟩:=p
  obtain ⟨h1,h2⟩:=h
  exact J.imp (h1 Yq) (fun a ZH ⟨e1,e2⟩=>by subst e1;subst e2;exact h2) fun _ _ f=>f
 |none=>exact f h
theorem HD (hT:ZY G T) (S:Ue G R) (SL:MN G R) {s:Stmt}{K:Zk->St->Prop}(h:CH G R n Φ s σ K):We G n Φ s σ K Zn:=by
 cases s with
 |Expr e pos=>
  obtain ⟨h1,h⟩:=ZS h
  (exact Nh (S.e h) fun env=>LX (nb h1))
 |Pass pos=>(exact Bu h)
 |Break pos=>(exact Ff h)
 |Continue pos=>(exact Bt h)
 |Return v pos=>
  cases v with
  |none=>(exact Bs h)
  |some e=>(exact yc (S.e h))
 |If t b o pos=>(refine U9 (V5.to (S.t h) ?_);rintro c σ h;cases c<;>exact S.ss h)
 |Assign ts v pos=>
  obtain ⟨t,e,h⟩:=Z3 h
  rw[Wm e]
  (exact ML hT S SL h)
 |For t iter body orelse pos=>
  (refine MK h fun h=> ?_)
  cases orelse with
  |nil=>
   obtain ⟨h1,h⟩:=ZS h
   (refine LU (nb h1) (Zd.to (S.e h) ?_);rintro a σ h;refine Q9.to (XC h) ?_;rintro b ZW ⟨k,e,h⟩;exact⟨k,e,SL.lp h⟩)
  |cons=>exact @gV _ h
 |While test body orelse pos=>
  (refine MK h fun h=> ?_)
  cases orelse with
  |nil=>(exact SL.wh h)
  |cons=>exact @gV _ h
 |Try body handlers orelse fin pos=>(exact MK h fun h=>gV h)
 |_=>exact @gV _ h
theorem Ep {d:D}{l:List D}(h:wW d=some l):d= .tup l:=by
 cases d with
 |tup=>exact congrArg _ (gj h)
 |_=>exact Xd h
theorem HC (hT:ZY G T) (S:Ue G R) {t:Expr}{a:AV}{K:St->Prop}(h:CG T R n Φ t a σ K):Rg G n Φ t a σ K Zn:=by
 cases t with
 |Name x pos=>
  obtain ⟨k,hl,h⟩:=Z3 h
  cases k with
  | «local»=>(exact KA hl h)
  |cell=>
   obtain ⟨i,hi,h⟩:=Z3 h
   obtain ⟨o,ho,h⟩:=Z3 h
   obtain ⟨c0,e,h⟩:=Z3 h
   rw[Qx e] at ho
   (exact Kz hl hi ho h)
  |_=>exact @gV _ h
 |Attribute o attr pos=>(refine Uj (Zd.to (S.e h) ?_);rintro b σ h;exact Eu hT h)
 |Subscript o i pos=>(refine IC (Zd.to (S.e h) ?_);rintro b σ h;refine Zd.to (S.e h) ?_;rintro c σ h;exact EH h)
 |Tuple ts k pos=>
  obtain ⟨d,e1,h⟩:=Z3 h
  obtain ⟨l,e2,h⟩:=Z3 h
  obtain ⟨h1,h⟩:=ZS h
  obtain ⟨h2,h⟩:=ZS h
  rw[PV e1,Ep e2]
  (exact IA (nb h1) (e_ h2) (S.ae h))
 |_=>exact @gV _ h
theorem Kf (S:Ue G R) {ts:List Expr}{as:List AV}{K:St->Prop}(h:HU R n Φ ts as σ K):IB G n Φ ts as σ K Zn:=by
 cases ts with
 |nil=>cases as with
  |nil=>(exact EF h)
  |cons=>exact @gV _ h
 |cons t ts=>cases as with
  |nil=>exact @gV _ h
  |cons a as=>
   obtain ⟨h1,h⟩:=ZS h
   (refine A7 (nb h1) (Rg.imp (S.a h) ?_);rintro σ h;exact S.ae h)
theorem Eo (hT:ZY G T) (S:Ue G R) (SL:MN G R):Ue G (step G T R) where
 e:=fun h=>HJ hT S SL h
 t:=fun h=>HE hT S h
 es:=fun{n Φ es σ K} h=>by
  cases es with
  |nil=>exact ym h
  |cons e r=>obtain ⟨h1,h⟩:=ZS h;exact rD (Zd.to (S.e h) fun a σ h=>S.es h) (nb h1)
 s:=fun h=>HD hT S SL h
 ss:=fun{n Φ ss σ K} h=>by
  cases ss with
  |nil=>(exact OU h)
  |cons s r=>(refine YJ (We.to (S.s h) ?_);rintro fl σ h;cases fl<;>first|exact S.ss h|exact h)
 a:=fun h=>HC hT S h
 ae:=fun h=>Kf S h
 c:=fun h=>wV hT S h
theorem qm:Ue G ng:=⟨fun h=>gV h,fun h=>gV h,fun h=>gV h,fun h=>gV h,fun h=>gV h,fun h=>gV h,fun h=>gV h,fun h=>gV h⟩
theorem wU {f:Nat}(A:∀c,c<f->Ue G (ev G T c)) {k:Nat}{t:Expr}{body:List Stmt}{K:Zk->St->Prop}(h:(ev G T f).lp n Φ k t body σ K):Kw G n Φ k t body σ K:=by
 refine Wo (fun c σ=>c<=f/\(ev G T c).lp n Φ k t body σ K) ?_ f ⟨gi _,h⟩
 rintro c σ ⟨hc,h⟩
 cases c with
 |zero=>exact gV h
 |succ c=>
  have S:=A c (by omega)
  have h:MQ (ev G T c) n Φ k t body σ K:=h
  unfold MQ at h
  refine JL.na ?_
  refine RX (LN h ?_)
  intro a σ h
  refine Rg.imp (S.a h) ?_
  intro σ h
  refine X0.to (S.ss h) ?_
  intro fl σ h
  refine Yl.to ?_ h
  intro σ h
  exact⟨c,fU _,by omega,h⟩
theorem wR {f:Nat}(A:∀c,c<f->Ue G (ev G T c)) {test:Expr}{body:List Stmt}{pos:Pos}{K:Zk->St->Prop}(h:(ev G T f).wh n Φ test body σ K):We G n Φ (.While test body [] pos) σ K Zn:=by
 refine EC (fun c σ=>c<=f/\(ev G T c).wh n Φ test body σ K) ?_ f ⟨gi _,h⟩
 rintro c σ ⟨hc,h⟩
 cases c with
 |zero=>exact gV h
 |succ c=>
  have S:=A c (by omega)
  have h:MP (ev G T c) n Φ test body σ K:=h
  unfold MP at h
  refine V5.to (S.t h) ?_
  intro b σ h
  cases b
  ·exact h
  ·refine X0.to (S.ss h) ?_
   intro fl σ h
   refine Yl.to ?_ h
   intro σ h
   exact⟨c,fU _,by omega,h⟩
theorem wQ {f:Nat}(A:∀c,c<f->Ue G (ev G T c)) {k ka:Nat}{t:Expr}{x:Str}{ifs:List Expr}{elt:Expr}{l:Nat}{Kd:St->Prop}(h:(ev G T f).cp n Φ k ka t x ifs elt l σ Kd):
  ∃(Inv:Nat->St->Prop) (c:Nat),Inv c σ/\∀c σ,Inv c σ->JL G n k t σ Kd fun a ZH=>A1 G n Φ ifs {ZH with loc:=Mine.put ZH.loc x a} fun b Tc=>match b with
    |false=>∃c',c'<c/\Inv c' Tc
    |true=>Zd G n Φ elt Tc (fun e σ3=>Ve G n (.bi .Yi) [.loc ka,e] σ3 (fun _ FZ=>∃c',c'<c/\Inv c' FZ) Zn) Zn:=by
 refine⟨fun c σ=>c<=f/\(ev G T c).cp n Φ k ka t x ifs elt l σ Kd,f,⟨gi _,h⟩,?_⟩
 rintro c σ ⟨hc,h⟩
 cases c with
 |zero=>exact gV h
 |succ c=>
  have S:=A c (by omega)
  have h:MO (ev G T c) n Φ k ka t x ifs elt l σ Kd:=h
  unfold MO at h
  refine RX (LN h ?_)
  intro a σ h
  rcases ifs with _|⟨c',_|_⟩
  ·show Zd G n Φ elt _ _ Zn
   refine Zd.to (S.e h) ?_
   intro e σ h
   refine Ve.to (Um h) ?_
   intro _ σ h
   exact⟨c,fU _,by omega,h⟩
  ·show V5 G n Φ _ _ _ Zn
   refine V5.to (S.t h) ?_
   intro b σ h
   cases b
   ·exact⟨c,fU _,by omega,h⟩
   ·refine Zd.to (S.e h) ?_
    intro e σ h
    refine Ve.to (Um h) ?_
    intro _ σ h
    exact⟨c,fU _,by omega,h⟩
  ·exact h.elim
theorem HB {f:Nat}(A:∀c,c<f->Ue G (ev G T c)):MN G (ev G T f):=⟨fun h=>wU A h,fun h=>wR A h,fun h=>wQ A h⟩
theorem ZA (hT:ZY G T):∀f,Ue G (ev G T f):=by
 intro f
 induction f using Nat.strongRecOn with
 |_ f ih=>
  cases f with
  |zero=>exact qm
  |succ f=>exact Eo hT (ih f (fU _)) (HB fun c hc=>ih c (by omega))
end
end
def Tr (ρ Yy:List Addr) (B:Part) (T:AV->AV->Prop):Prop:=∀x y v,T x y->Rep ρ B x v->Rep Yy B y v
inductive TL (T:AV->AV->Prop):List AV->List AV->Prop
 |nil:TL T [] []
 |cons {x y:AV}{l r:List AV}(h:T x y) (t:TL T l r):TL T (x::l) (y::r)
inductive TK {κ:Type}(T:AV->AV->Prop):List (κ×AV)->List (κ×AV)->Prop
 |nil:TK T [] []
 |cons {k:κ}{x y:AV}{l r:List (κ×AV)}(h:T x y) (t:TK T l r):TK T ((k,x)::l) ((k,y)::r)
inductive TP (T:AV->AV->Prop):List (AV×AV)->List (AV×AV)->Prop
 |nil:TP T [] []
 |cons {x y u v:AV}{l r:List (AV×AV)}(h:T x y) (g:T u v) (t:TP T l r):TP T ((x,u)::l) ((y,v)::r)
inductive TO (T:AV->AV->Prop):AO->AO->Prop
 |gone:TO T .gone .gone
 |inst {C:Addr}{l r:List (Str×AV)}(t:TK T l r):TO T (.inst C l) (.inst C r)
 |list {l r:List AV}(t:TL T l r):TO T (.list l) (.list r)
 |Z_ {l:List Int}:TO T (.Z_ l) (.Z_ l)
 |Ot:TO T (.cell none) (.cell none)
 |cell {x y:AV}(t:T x y):TO T (.cell (some x)) (.cell (some y))
 |dict {l r:List (Int×AV)}(t:TK T l r):TO T (.dict l) (.dict r)
 |lit {n m i:Nat}(t:T (.loc n) (.loc m)):TO T (.lit n i) (.lit m i)
 |Vm {n m i:Nat}(t:T (.loc n) (.loc m)):TO T (.Vm n i) (.Vm m i)
 |en {n m i:Nat}(t:T (.loc n) (.loc m)):TO T (.en n i) (.en m i)
 |zp {l r:List (AV×AV)}(t:TP T l r):TO T (.zp l) (.zp r)
 |mb {C:Addr}{x:Str}{l r:List AV}(t:TL T l r):TO T (.mb C x l) (.mb C x r)
 |tab {P:Addr}{q:Str}:TO T (.tab P q) (.tab P q)
 |it {b:Bool}{l r:List AV}(t:TL T l r):TO T (.it b l) (.it b r)
 |X7 {P:Addr->Part->Prop}:TO T (.X7 P) (.X7 P)
section
variable {ρ Yy:List Addr}{B:Part}{T:AV->AV->Prop}
theorem TL.reps (k:Tr ρ Yy B T) {l l':List AV}(t:TL T l l'):∀{vs:List h_},ZT ρ B l vs->ZT Yy B l' vs:=by
 induction t with
 |nil=>exact id
 |cons a b ih=>exact fun⟨v,w,e,p,q⟩=>⟨v,w,e,k _ _ _ a p,ih q⟩
theorem TL.len {l l':List AV}(t:TL T l l'):l'.length=l.length:=by
 induction t with
 |nil=>rfl
 |cons a b ih=>exact congrArg cT ih
theorem TL.get {l l':List AV}(t:TL T l l'):∀{j:Nat}{e:AV},l'[j]?=some e->∃e0,l[j]?=some e0/\T e0 e:=by
 induction t with
 |nil=>intro j e h;cases h
 |cons a b ih=>
  intro j e h
  cases j with
  |zero=>cases h;exact⟨_,rfl,a⟩
  |succ j=>exact ih h
theorem TP.len {l l':List (AV×AV)}(t:TP T l l'):l'.length=l.length:=by
 induction t with
 |nil=>rfl
 |cons a g b ih=>exact congrArg cT ih
theorem TP.get {l l':List (AV×AV)}(t:TP T l l'):∀{j:Nat}{e:AV×AV},l'[j]?=some e->∃e0,l[j]?=some e0/\T e0.1 e.1/\T e0.2 e.2:=by
 induction t with
 |nil=>intro j e h;cases h
 |cons a g b ih=>
  intro j e h
  cases j with
  |zero=>cases h;exact⟨_,rfl,a,g⟩
  |succ j=>exact ih h
theorem TK.jP (k:Tr ρ Yy B T) {x:Str}{u:Option h_}{l l':List (Str×AV)}(t:TK T l l'):OW ρ B (lk l x) u->OW Yy B (lk l' x) u:=by
 induction t with
 |nil=>exact id
 | @cons y _ _ _ _ a b ih=>
  unfold lk
  cases sq y x with
  |true=>exact fun⟨v,e,h⟩=>⟨v,e,k _ _ _ a h⟩
  |false=>exact ih
theorem TK.len {κ:Type}{l l':List (κ×AV)}(t:TK T l l'):l'.length=l.length:=by
 induction t with
 |nil=>rfl
 |cons a b ih=>exact congrArg cT ih
theorem TK.jO (k:Tr ρ Yy B T) {l l':List (Int×AV)}(t:TK T l l'):∀{vs:List (Int×h_)},Q_ ρ B l vs->Q_ Yy B l' vs:=by
 induction t with
 |nil=>exact id
 |cons a b ih=>exact fun⟨v,w,e,p,q⟩=>⟨v,w,e,k _ _ _ a p,ih q⟩
theorem Tr.loc (k:Tr ρ Yy B T) {n m:Nat}(t:T (.loc n) (.loc m)) {l:Addr}(x:ρ[n]?=some l):Yy[m]?=some l:=by
 obtain ⟨l',x',e⟩:=k _ _ (.ref l) t ⟨l,x,rfl⟩
 cases e;exact x'
theorem TO.obj (k:Tr ρ Yy B T) {a:Addr}{o o':AO}{V:Part}(t:TO T o o') (h:Y3 ρ B a o V):Y3 Yy B a o' V:=by
 cases t with
 |inst t=>obtain ⟨f,x,y⟩:=h;exact⟨f,fun z=>TK.jP k t (x z),by rw[TK.len t];exact y⟩
 |list t=>obtain ⟨vs,x,y⟩:=h;exact⟨vs,TL.reps k t x,y⟩
 |cell t=>obtain ⟨v,x,y⟩:=h;exact⟨v,k _ _ _ t x,y⟩
 |dict t=>obtain ⟨vs,x,y⟩:=h;exact⟨vs,TK.jO k t x,y⟩
 |lit t=>obtain ⟨o,l,e,x,y,z⟩:=h;exact⟨o,l,e,k.loc t x,y,z⟩
 |Vm t=>obtain ⟨o,l,e,x,y,z⟩:=h;exact⟨o,l,e,k.loc t x,y,z⟩
 |en t=>obtain ⟨it,l,x,n1,n2,n3,v1,v2,v3,z⟩:=h;exact⟨it,l,k.loc t x,n1,n2,n3,v1,v2,v3,z⟩
 |zp t=>
  obtain ⟨fp,wr,n,Pt,St,Mid,i,x,y,z,u,v,r⟩:=h
  exact⟨fp,wr,n,Pt,St,Mid,i,x,y,z,u,(TP.len t).symm▸v,fun j vals e q p=>let ⟨e0,q0,t1,t2⟩:=TP.get t q;TL.reps k (.cons t1 (.cons t2 .nil)) (r j vals e0 q0 p)⟩
 |mb t=>obtain ⟨sp,vs,V1,V2,d,l1,l2,r,x,s⟩:=h;exact⟨sp,vs,V1,V2,d,l1,l2,TL.reps k t r,x,s⟩
 |it t=>
  obtain ⟨o,fp,n,P,St,i,e,m,x,y,z,u,v,g,r⟩:=h
  exact⟨o,fp,n,P,St,i,e,m,x,y,z,u,(TL.len t).symm▸v,g,fun j w e' q p=>let ⟨e0,q0,t0⟩:=TL.get t q;k _ _ _ t0 (r j w e0 q0 p)⟩
 |_=>exact h
end
inductive TH (T:AV->AV->Prop):List AO->List AO->Prop
 |nil:TH T [] []
 |cons {x y:AO}{l r:List AO}(h:TO T x y) (t:TH T l r):TH T (x::l) (y::r)
theorem TH.len {T:AV->AV->Prop}{l l':List AO}(t:TH T l l'):l'.length=l.length:=by
 induction t with
 |nil=>rfl
 |cons a b ih=>exact congrArg cT ih
section
variable {T T':AV->AV->Prop}(i:∀{x y},T x y->T' x y)
section
include i
theorem TL.imp {l r:List AV}(t:TL T l r):TL T' l r:=by
 induction t with
 |nil=>exact .nil
 |cons a _ ih=>exact .cons (i a) ih
theorem TK.imp {κ:Type}{l r:List (κ×AV)}(t:TK T l r):TK T' l r:=by
 induction t with
 |nil=>exact .nil
 |cons a _ ih=>exact .cons (i a) ih
theorem TP.imp {l r:List (AV×AV)}(t:TP T l r):TP T' l r:=by
 induction t with
 |nil=>exact .nil
 |cons a b _ ih=>exact .cons (i a) (i b) ih
theorem TO.imp {l r:AO}(t:TO T l r):TO T' l r:=by
 cases t with
 |gone=>exact .gone
 |inst t=>exact .inst (t.imp i)
 |list t=>exact .list (t.imp i)
 |Z_=>exact .Z_
 |Ot=>exact .Ot
 |cell t=>exact .cell (i t)
 |dict t=>exact .dict (t.imp i)
 |lit t=>exact .lit (i t)
 |Vm t=>exact .Vm (i t)
 |en t=>exact .en (i t)
 |zp t=>exact .zp (t.imp i)
 |mb t=>exact .mb (t.imp i)
 |tab=>exact .tab
 |it t=>exact .it (t.imp i)
 |X7=>exact .X7
theorem TH.imp {l r:List AO}(t:TH T l r):TH T' l r:=by
 induction t with
 |nil=>exact .nil
 |cons a _ ih=>exact .cons (a.imp i) ih
end
end
theorem TH.parts {ρ Yy:List Addr}{B:Part}{T:AV->AV->Prop}(k:Tr ρ Yy B T) {F:List (Part->Prop)}{H H':List AO}(t:TH T H H'):∀{r:List Addr}{V:Part},Z0 (Mine.parts B ρ r H++F) V->Z0 (Mine.parts B Yy r H'++F) V:=by
 induction t with
 |nil=>intro r V h;cases r<;>exact h
 |cons a b ih=>
  intro r V h
  cases r with
  |nil=>exact h
  |cons x r=>exact Z0.map (fun _ x=>ih x) (Z0.conv (fun V p=>TO.obj k a p) h)
def Ke (r:Nat->Nat):List (Str×Nat)->List (Str×Nat)
 | []=> []
 |x::l=>(x.1,r x.2)::Ke r l
def AV.Yb (r:Nat->Nat):AV->AV| .loc n=> .loc (r n)| .YV ps b sc cl=> .YV ps b sc (Ke r cl)|a=>a
def MI {κ:Type}(r:Nat->Nat):List (κ×AV)->List (κ×AV)
 | []=> []
 |(k,x)::l=>(k,x.Yb r)::MI r l
def Yk (r:Nat->Nat):List AV->List AV
 | []=> []
 |x::l=>x.Yb r::Yk r l
def Kc (r:Nat->Nat):List (AV×AV)->List (AV×AV)
 | []=> []
 |(x,y)::l=>(x.Yb r,y.Yb r)::Kc r l
def AO.Yb (r:Nat->Nat):AO->AO
 | .inst C fs=> .inst C (MI r fs)
 | .list l=> .list (Yk r l)
 | .cell none=> .cell none
 | .cell (some x)=> .cell (some (x.Yb r))
 | .dict l=> .dict (MI r l)
 | .lit n i=> .lit (r n) i
 | .Vm n i=> .Vm (r n) i
 | .en n i=> .en (r n) i
 | .zp l=> .zp (Kc r l)
 | .mb C x l=> .mb C x (Yk r l)
 | .it t els=> .it t (Yk r els)
 |o=>o
def YI (r:Nat->Nat):List AO->List AO
 | []=> []
 |x::l=>x.Yb r::YI r l
abbrev wO (r:Nat->Nat):AV->AV->Prop:=fun x y=>y=x.Yb r
abbrev HA (r:Nat->Nat):AV->AV->Prop:=fun x y=>x=y.Yb r
section
variable {r:Nat->Nat}
theorem TL.to:∀l,TL (wO r) l (Yk r l)
 | []=> .nil
 |_::l=> .cons rfl (TL.to l)
theorem TL.SJ:∀l,TL (HA r) (Yk r l) l
 | []=> .nil
 |_::l=> .cons rfl (TL.SJ l)
theorem TK.to {κ:Type}:∀l:List (κ×AV),TK (wO r) l (MI r l)
 | []=> .nil
 |(_,_)::l=> .cons rfl (TK.to l)
theorem TK.SJ {κ:Type}:∀l:List (κ×AV),TK (HA r) (MI r l) l
 | []=> .nil
 |(_,_)::l=> .cons rfl (TK.SJ l)
theorem TP.to:∀l,TP (wO r) l (Kc r l)
 | []=> .nil
 |(_,_)::l=> .cons rfl rfl (TP.to l)
theorem TP.SJ:∀l,TP (HA r) (Kc r l) l
 | []=> .nil
 |(_,_)::l=> .cons rfl rfl (TP.SJ l)
theorem TO.to (o:AO):TO (wO r) o (o.Yb r):=by
 cases o with
 |gone=>exact .gone
 |inst=>exact .inst (TK.to _)
 |list=>exact .list (TL.to _)
 |Z_=>exact .Z_
 |cell x=>cases x;exact .Ot;exact .cell rfl
 |dict=>exact .dict (TK.to _)
 |lit=>exact .lit rfl
 |Vm=>exact .Vm rfl
 |en=>exact .en rfl
 |zp=>exact .zp (TP.to _)
 |mb=>exact .mb (TL.to _)
 |tab=>exact .tab
 |it=>exact .it (TL.to _)
 |X7=>exact .X7
theorem TO.SJ (o:AO):TO (HA r) (o.Yb r) o:=by
 cases o with
 |gone=>exact .gone
 |inst=>exact .inst (TK.SJ _)
 |list=>exact .list (TL.SJ _)
 |Z_=>exact .Z_
 |cell x=>cases x;exact .Ot;exact .cell rfl
 |dict=>exact .dict (TK.SJ _)
 |lit=>exact .lit rfl
 |Vm=>exact .Vm rfl
 |en=>exact .en rfl
 |zp=>exact .zp (TP.SJ _)
 |mb=>exact .mb (TL.SJ _)
 |tab=>exact .tab
 |it=>exact .it (TL.SJ _)
 |X7=>exact .X7
theorem TH.to:∀l,TH (wO r) l (YI r l)
 | []=> .nil
 |o::l=> .cons (TO.to o) (TH.to l)
theorem TH.SJ:∀l,TH (HA r) (YI r l) l
 | []=> .nil
 |o::l=> .cons (TO.SJ o) (TH.SJ l)
end
theorem Ys.to {ρ Yy:List Addr}{r:Nat->Nat}(k:∀(n:Nat) (a:Addr),ρ[n]?=some a->Yy[r n]?=some a):∀{l:List (Str×Nat)}{q:List (Str×Addr)},Ys ρ l q->Ys Yy (Ke r l) q
 | [],[],_=>trivial
 |_::_,_::_,⟨a,b,c⟩=>⟨a,k _ _ b,Ys.to k c⟩
 | [],_::_,h=>h.elim
 |_::_,[],h=>h.elim
theorem Ys.SJ {ρ Yy:List Addr}{r:Nat->Nat}(k:∀(n:Nat) (a:Addr),ρ[r n]?=some a->Yy[n]?=some a):∀{l:List (Str×Nat)}{q:List (Str×Addr)},Ys ρ (Ke r l) q->Ys Yy l q
 | [],[],_=>trivial
 |_::_,_::_,⟨a,b,c⟩=>⟨a,k _ _ b,Ys.SJ k c⟩
 | [],_::_,h=>h.elim
 |_::_,[],h=>h.elim
theorem Tr.to {ρ Yy:List Addr}{B:Part}{r:Nat->Nat}(k:∀n a,ρ[n]?=some a->Yy[r n]?=some a):Tr ρ Yy B fun x y=>y=x.Yb r:=fun x y v e h=>by
 subst e
 cases x with
 |loc n=>obtain ⟨a,p,q⟩:=h;exact⟨a,k _ _ p,q⟩
 |YV=>obtain ⟨a,fd,e,x,y⟩:=h;exact⟨a,fd,e,x,Ys.to k y⟩
 |_=>exact h
theorem Tr.SJ {ρ Yy:List Addr}{B:Part}{r:Nat->Nat}(k:∀n a,ρ[r n]?=some a->Yy[n]?=some a):Tr ρ Yy B fun x y=>x=y.Yb r:=fun x y v e h=>by
 subst e
 cases y with
 |loc n=>obtain ⟨a,p,q⟩:=h;exact⟨a,k _ _ p,q⟩
 |YV=>obtain ⟨a,fd,e,x,y⟩:=h;exact⟨a,fd,e,x,Ys.SJ k y⟩
 |_=>exact h
inductive YB:List Nat->List AO->List AO->List AO->Prop
 |nil {H:List AO}:YB [] [] H H
 |cons {i:Nat}{e:List Nat}{o:AO}{os H Hg:List AO}(a:H[i]?=some o) (b:YB e os (H.set i .gone) Hg):YB (i::e) (o::os) H Hg
def XA:List Nat->List AO->List AO->List AO
 |i::e,o::os,H=>(XA e os H).set i o
 |_,_,H=>H
theorem WJ:∀{e:List Nat}{os H:List AO},(XA e os H).length=H.length
 | [],_,_=>by unfold XA;rfl
 |_::_,[],_=>by unfold XA;rfl
 |i::e,o::os,H=>by unfold XA;rw[c7];exact WJ
theorem RN {B:Part}{ρ:List Addr}{e:List Nat}{os H Hg:List AO}(h:YB e os H Hg):ρ.length=H.length->
  Hg.length=H.length/\∃as:List Addr,as.length=e.length/\(∀(j i:Nat),e[j]?=some i->as[j]?=ρ[i]?)/\∀F V,Z0 (parts B ρ ρ H++F) V->Z0 (parts B ρ as os++(parts B ρ ρ Hg++F)) V:=by
 induction h with
 |nil=>exact fun _=>⟨rfl,[],rfl,(fun j i e=>by cases e),fun F V x=>x⟩
 |cons h1 h2 ih=>
  intro hl
  obtain ⟨a,pre,post,q1,q2,q3⟩:=YM (B:=B) (ρ:=ρ) hl h1
  obtain ⟨hg,as,p1,p2,p3⟩:=ih (by rw[c7];exact hl)
  rw[c7] at hg
  refine⟨hg,a::as,congrArg cT p1,fun j k ej=> ?_,fun F V x=> ?_⟩
  ·cases j with
   |zero=>cases ej;exact q1.symm
   |succ j=>exact p2 j k ej
  ·rw[q2,gG] at x
   refine Z0.map (fun V x=>p3 F V ?_) (Z0.YK x)
   rw[q3,gG]
   exact Z0.Yo (Z0.qL x)
theorem LH {B:Part}{ρ wN:List Addr}{F:List (Part->Prop)}{H:List AO}(hl:ρ.length=H.length):∀{e:List Nat}{os:List AO}{as:List Addr}{V:Part},e.length=os.length->(∀i∈e,i<H.length)->as.length=e.length->(∀(j i:Nat),e[j]?=some i->as[j]?=ρ[i]?)->
  Z0 (parts B wN as os++(parts B wN ρ H++F)) V->Z0 (parts B wN ρ (XA e os H)++F) V:=by
 intro e
 induction e with
 |nil=>
  intro os as V h1 _ h2 _ x
  cases os with
  |nil=>cases as with
   |nil=>exact x
   |cons=>cases h2
  |cons=>cases h1
 |cons i e ih=>
  intro os as V h1 hi h2 hj x
  cases os with
  |nil=>cases h1
  |cons o os=>cases as with
   |nil=>cases h2
   |cons a as=>
    obtain ⟨o',ho⟩:∃o',(XA e os H)[i]?=some o':=⟨_,f9 (by rw[WJ];exact hi i (.head _))⟩
    obtain ⟨a',pre,post,q1,q2,q3⟩:=YM (B:=B) (ρ:=wN) (r:=ρ) (by rw[WJ];exact hl) ho
    obtain rfl:a=a':=gj ((hj 0 i rfl).trans q1)
    have y:=Z0.map (fun V=>ih (cT.inj h1) (fun j hj=>hi j (.tail _ hj)) (cT.inj h2) (fun j k ej=>hj (j+1) k ej)) x
    rw[q2,gG] at y
    have y:Z0 (Y3 wN B a o::(pre++(post++F))) V:=Z0.map (fun V z=>(Z0.YK z).weak) y
    unfold XA
    rw[q3,gG]
    exact Z0.Yo y
theorem Z0.RM {C D:List (Part->Prop)}(k:∀V,Z0 C V->Z0 D V):∀{A:List (Part->Prop)}{V:Part},Z0 (A++C) V->Z0 (A++D) V
 | [],V,h=>k V h
 |_::A,V,h=>Z0.map (fun _ x=>Z0.RM k x) h
theorem Z0.comm {A C D:List (Part->Prop)}{V:Part}(h:Z0 (A++(C++D)) V):Z0 (C++(A++D)) V:=
 Z0.open (Z0.map (fun _ x=>Z0.open x) (Z0.swap (Z0.map (fun _ x=>Z0.close x) (Z0.close h))))
theorem Z0.drop {D:List (Part->Prop)}:∀{A:List (Part->Prop)}{V:Part},Z0 (A++D) V->Z0 D V
 | [],_,h=>h
 |_::A,_,h=>Z0.drop (A:=A) h.weak
theorem Xc {l:List (Part->Prop)}{fs:Frs}:frames (l.map .hid++fs)=l++frames fs:=by
 unfold frames
 rw[c6,List.map_map]
 congr 1
 conv=>rhs;rw[<-List.map_id l]
 rfl
theorem RL {fs:Frs}:∀{l:List (Part->Prop)},Sn (l.map .hid++fs)=Sn fs
 | []=>rfl
 |_::l=>RL (l:=l)
def AS:List Stmt:=gz.main.body
def mZ (x:Stmt) (ps:List Str) (ex:List (Str×D)):Fn:=⟨XO 0 x default fun h=> @aa (fun _=>gQ) x h fun _ _ _ _ _ _ s _ _ _=>s,XO 0 x [] fun h=> @aa (fun _=>List Stmt) x h fun _ _ b _ _ _ _ _ _ _=>b,ps,ex,none⟩
def s7 (i:Nat):Stmt:=(AS[i]?).getD (.Pass default)
def Zc (i:Nat) (j:Option Nat) (ps:List Str) (ex:List (Str×D)):Fn:=mZ (j.elim (s7 i) fun j=>XO 2 (s7 i) (.Pass default) fun h=> @PySem.Stmt.ClassDef.elim (fun _=>Stmt) (s7 i) h fun _ _ _ b _ _ _ _ _ _ _=>(b[j]?).getD (.Pass default)) ps ex
def s6 (i:Nat) (ps:List Str) (c:Nat) (q:Str):Fn:={mZ (s7 i) ps [] with cd:=some (c,q)}
def SI:List (Nat×Fn):= [(35,Zc 2 (some 0) ["self","symbol","data"] []),
 (67,Zc 7 none ["code"] []),
 (81,Zc 9 none ["code"] []),
 (171,Zc 35 none ["code"] []),
 (192,Zc 38 none ["nodes"] []),
 (206,Zc 39 (some 0) ["self","word","number"] []),
 (213,Zc 39 (some 1) ["self","node"] []),
 (227,Zc 39 (some 3) ["self"] []),
 (248,Zc 40 (some 0) ["self","codes"] []),
 (255,Zc 40 (some 1) ["self"] []),
 (262,Zc 40 (some 2) ["self"] []),
 (269,Zc 40 (some 3) ["self"] []),
 (276,Zc 40 (some 4) ["self"] []),
 (365,Zc 41 none ["codes"] []),
 (380,Zc 45 (some 0) ["self","rows","groups","marks","folds"] []),
 (401,Zc 46 (some 0) ["self","folds"] []),
 (415,Zc 46 (some 2) ["self","tasks"] []),
 (422,Zc 46 (some 3) ["self","node"] []),
 (427,Zc 46 (some 4) ["self","node"] []),
 (462,Zc 46 (some 9) ["self"] []),
 (476,Zc 47 none ["node","groups","folds"] []),
 (483,Zc 48 none ["codes","folds"] []),
 (547,Zc 59 (some 0) ["self","code","view","table","point"] [("steps",.int 400000)]),
 (552,Zc 59 (some 1) ["self","place","limit"] []),
 (559,Zc 59 (some 2) ["self","number"] []),
 (566,Zc 59 (some 3) ["self","place"] []),
 (587,Zc 59 (some 6) ["self","row","place"] []),
 (594,Zc 59 (some 7) ["self","row","code"] []),
 (620,Zc 61 none ["view","codes","place","folds"] []),
 (627,Zc 62 none ["view","place","codes","bound","folds"] []),
 (634,Zc 63 none ["view","place","codes","bound","folds"] []),
 (641,Zc 64 none ["view","table","place","code","bound","point"] []),
 (648,Zc 65 none ["view","table","place","code","bound","point"] []),
 (655,Zc 66 none ["search","place","count"] []),
 (669,Zc 74 (some 0) ["self","kind","match","flags"] []),
 (709,Zc 75 none ["text"] []),
 (714,Zc 76 none ["text"] []),
 (729,Zc 77 (some 0) ["self"] [("parent",.none)]),
 (743,Zc 77 (some 2) ["self","text","description"] []),
 (792,Zc 78 none [] []),
 (799,Zc 79 none [] []),
 (806,Zc 81 none ["buffer"] []),
 (811,Zc 82 none ["answer"] []),
 (818,Zc 83 none ["editor","found","codes","is_forward"] []),
 (825,s6 84 ["editor","codes","count"] 824 "search_by.<locals>."),
 (832,s6 85 ["editor","codes","count"] 831 "re_search_by.<locals>."),
 (839,Zc 86 none ["editor","values"] []),
 (846,Zc 87 none ["editor","values"] []),
 (853,Zc 88 none ["editor","values"] []),
 (860,Zc 89 none ["editor","values"] []),
 (874,Zc 91 (some 0) ["self","codes","room"] []),
 (881,Zc 91 (some 1) ["self"] []),
 (888,Zc 91 (some 2) ["self","at"] []),
 (895,Zc 91 (some 3) ["self","start","end"] []),
 (902,Zc 91 (some 4) ["self","at"] []),
 (909,Zc 91 (some 5) ["self","wanted"] []),
 (916,Zc 91 (some 6) ["self","at","codes"] []),
 (1000,Zc 95 (some 0) ["self"] []),
 (1007,Zc 95 (some 1) ["self"] []),
 (1035,Zc 95 (some 5) ["self","start","end","is_before"] []),
 (1071,Zc 97 (some 0) ["self","number","name"] [("room",.int 8)]),
 (1092,Zc 97 (some 3) ["self"] []),
 (1099,Zc 97 (some 4) ["self"] []),
 (1106,Zc 97 (some 5) ["self"] []),
 (1113,Zc 97 (some 6) ["self","place"] []),
 (1120,Zc 97 (some 7) ["self","start","end"] []),
 (1127,Zc 97 (some 8) ["self","place"] []),
 (1155,Zc 97 (some 12) ["self","are_codes"] []),
 (1174,Zc 99 (some 0) ["self"] []),
 (1181,Zc 99 (some 1) ["self","number"] []),
 (1188,Zc 99 (some 2) ["self","name"] []),
 (1195,Zc 99 (some 3) ["self","name"] []),
 (1217,Zc 99 (some 6) ["self","buffer"] []),
 (1224,Zc 99 (some 7) ["self","buffer"] []),
 (1273,Zc 101 none ["buffer"] []),
 (1280,Zc 102 none ["buffer","start","end"] []),
 (1287,Zc 103 none ["buffer","start","end"] []),
 (1294,Zc 104 none ["buffer","start","end","old_length"] []),
 (1301,Zc 105 none ["buffer","place","codes"] []),
 (1308,Zc 106 none ["buffer","place","many","before_markers"] []),
 (1315,Zc 107 none ["buffer","place","codes","before_markers","is_point_behind"] []),
 (1323,Zc 108 none ["buffer","place","codes"] [("before_markers",.bool false)]),
 (1337,Zc 110 (some 0) ["self"] []),
 (1358,Zc 112 (some 0) ["self","buffers","commands","global_map"] []),
 (1365,Zc 112 (some 1) ["self"] []),
 (1512,Zc 114 (some 0) ["self"] []),
 (1519,Zc 114 (some 1) ["self","spans"] []),
 (1547,Zc 114 (some 5) ["self"] []),
 (1582,Zc 116 none ["buffer","start","end"] []),
 (1589,Zc 118 none ["deck","many"] []),
 (1596,Zc 119 none ["deck","items"] []),
 (1603,Zc 120 none ["codes"] []),
 (1610,Zc 121 none ["text","at","wanted","is_expression"] []),
 (1615,Zc 122 none ["text","low","high","place","wanted","is_expression","count"] []),
 (1620,Zc 123 none ["editor","wanted","is_expression","is_back","count"] []),
 (1625,Zc 124 none ["script"] [])]
def mY:List (Nat×Cl):= [(230,⟨206,[("put",213),("node",227)],["word","number","done","nodes","is_loose"]⟩),
 (354,⟨248,[("top",255),("code",262),("whole",269),("step",276)],["codes","place","frames","groups"]⟩),
 (383,⟨380,[],["rows","groups","marks","folds"]⟩),
 (465,⟨401,[("wait",415),("run",422),("node",427),("settled",462)],["folds","rows","places","labels","marks","waiting"]⟩),
 (609,⟨547,[("match_at",552),("span",559),("run",566),("asked",587),("is_taken",594)],["code","view","table","point","steps","taken","limit","kept","marks","choices","changes"]⟩),
 (700,⟨669,[],["kind","match","flags"]⟩),
 (781,⟨729,[("modify_all",743)],["parent","rows"]⟩),
 (947,⟨874,[("size",881),("code",888),("codes",895),("move_gap",902),("widen_gap",909),("insert",916)],["room","cells","gap_start","gap_end"]⟩),
 (1052,⟨1000,[("numbers",1007),("inserted",1035)],["rows"]⟩),
 (1158,⟨1071,[("begin",1092),("end",1099),("size",1106),("code_at",1113),("codes",1120),("goto",1127),("touch",1155)],["number","name","text","markers","point","begv","zv","mark","is_live","is_read_only","ticks","codes_ticks","saved_ticks","listeners","undo","props","overlays","locals","syntax","file"]⟩),
 (1262,⟨1174,[("by_number",1181),("by_name",1188),("create",1195),("select",1217),("set_current",1224)],["rows","order","current","last_number","last_marker"]⟩),
 (1340,⟨1337,[],["sort","many"]⟩),
 (1494,⟨1358,[("current",1365)],["buffers","commands","global_map","local_maps","minor_maps","question_map","questions","asker","kills","registers","abbrevs","windows","files","machine","rules","further","matches","loop","goal","undoing","marks","amalgam","message","panes","modes","fill_column","tab_width","rectangle","last_expansion","replacing"]⟩),
 (1571,⟨1512,[("set",1519),("as_list",1547)],["spans"]⟩)]
def gR:List (Str×Nat):= [(("downcase" :Str),67),(("fold" :Str),81),(("sign_of" :Str),171),(("joined" :Str),192),(("parse_regexp" :Str),365),(("compile_node" :Str),476),(("compile_regexp" :Str),483),(("is_here" :Str),620),(("search_forward" :Str),627),(("search_backward" :Str),634),(("re_search_forward" :Str),641),(("re_search_backward" :Str),648),(("again" :Str),655),(("sorted_flags" :Str),709),(("read_syntax" :Str),714),(("letters" :Str),792),(("standard_table" :Str),799),(("table_of" :Str),806),(("codes_told" :Str),811),(("went" :Str),818),(("search_by" :Str),825),(("re_search_by" :Str),832),(("search_ahead" :Str),839),(("search_back" :Str),846),(("re_search_ahead" :Str),853),(("re_search_back" :Str),860),(("need_writable" :Str),1273),(("reached" :Str),1280),(("tell_ahead" :Str),1287),(("tell_behind" :Str),1294),(("text_in" :Str),1301),(("hung_in" :Str),1308),(("put_in" :Str),1315),(("insert_at" :Str),1323),(("narrow" :Str),1582),(("_law_draw" :Str),1589),(("_law_pick" :Str),1596),(("_law_editor" :Str),1603),(("_law_fits" :Str),1610),(("_law_sought" :Str),1615),(("_law_searched" :Str),1620),(("LispSignal" :Str),38),(("Frame" :Str),230),(("Parsing" :Str),354),(("Regcode" :Str),383),(("Compiling" :Str),465),(("Regmachine" :Str),609),(("Syntax" :Str),700),(("SyntaxTable" :Str),781),(("GapText" :Str),947),(("Opaque" :Str),982),(("Markers" :Str),1052),(("Buffer" :Str),1158),(("BufferTable" :Str),1262),(("Amalgam" :Str),1340),(("Editor" :Str),1494),(("MatchData" :Str),1571)]
def gB:List (Str×BI):= [(("len" :Str),.len),(("abs" :Str),.abs),(("min" :Str),.min),(("max" :Str),.max),(("ord" :Str),.ord),(("chr" :Str),.chr),(("range" :Str),.range),(("list" :Str),.list),(("tuple" :Str),.tuple),(("str" :Str),.str),(("isinstance" :Str),.isinstance),(("enumerate" :Str),.enumerate),(("zip" :Str),.zip),(("reversed" :Str),.reversed),(("sorted" :Str),.sorted),(("all" :Str),.all)]
def gI:List (Str×Int×Tok):= [(("MOST_ROWS" :Str),20000,696),(("LINE_FEED_regmachine" :Str),10,934),(("MOST_STEPS" :Str),400000,936)]
def gS:List (Str×Str×Tok):= [(("WHITESPACE" :Str),(" " :Str),1186),(("WORD" :Str),("w" :Str),1188),(("PUNCTUATION" :Str),("." :Str),1190),(("INHERITS" :Str),("@" :Str),1192),(("KINDS_syntax" :Str),(" w_.()'\"\\/$<>@!|" :Str),1194),(("FLAGS" :Str),("1234bcnp" :Str),1196)]
abbrev Hz:List D:= [.str "any",.str "set",.str "syntax",.str "at",.str "back"]
def T0:Tb:=⟨("PLAIN",.d (.tup Hz))::(gR.map (fun x=>(x.1,.Z8 (.ref x.2)))++(gB.map (fun x=>(x.1,.bi x.2))++(gI.map (fun x=>(x.1,.d (.int x.2.1)))++gS.map fun x=>(x.1,.d (.str x.2.1))))),SI,mY,[(824,820),(831,827)]⟩
section
variable {G:Gm}{n:Nat}{Φ:Fm}{σ Z4 ZW Zq ZH:St}{X:XK}
def YN (e:List Nat) (k:Nat) (n:Nat):Nat:=match e[n]? with|some i=>i|none=>k+(n - e.length)
theorem Ud {e:List Nat}{k n i:Nat}(h:e[n]?=some i):YN e k n=i:=by unfold YN;rw[h]
theorem MH {e:List Nat}{k n:Nat}(h:e.length<=n):YN e k n=k+(n - e.length):=by unfold YN;rw[aA h]
theorem YB.lt {e:List Nat}{os H Hg:List AO}(h:YB e os H Hg):∀i∈e,i<H.length:=by
 induction h with
 |nil=>exact fun i h=>nomatch h
 |cons a b ih=>
  intro i h
  rcases gy.mp h with rfl|h
  ·exact(fD.mp a).1
  ·have:=ih i h;rwa [c7] at this
theorem YB.len {e:List Nat}{os H Hg:List AO}(h:YB e os H Hg):os.length=e.length:=by
 induction h with
 |nil=>rfl
 |cons a b ih=>exact congrArg cT ih
def QV (m:Str->Option h_) (loc:List (Str×AV)):List (Str×AV):=loc.map fun x=>(x.1,match m x.1 with|some v=>AV.Z8 v|none=> .any)
theorem LG {m:Str->Option h_}{x:Str}{a:AV}:∀{loc:List (Str×AV)},lk (QV m loc) x=some a->(∃b,lk loc x=some b)/\a=(match m x with|some v=>AV.Z8 v|none=> .any)
 | [],h=>by cases h
 |(y,b)::r,h=>by
  unfold QV at h
  rw[gb] at h
  unfold lk at h ⊢
  cases q:sq y x with
  |true=>have:=Zv.mp q;subst this;simp only[q] at h;cases h;exact⟨⟨b,rfl⟩,rfl⟩
  |false=>simp only[q] at h;exact LG h
theorem LF {m:Str->Option h_}{x:Str}{b:AV}:∀{loc:List (Str×AV)},lk loc x=some b->lk (QV m loc) x=some (match m x with|some v=>AV.Z8 v|none=> .any)
 | [],h=>by cases h
 |(y,c)::r,h=>by
  unfold QV
  rw[gb]
  unfold lk at h ⊢
  cases q:sq y x with
  |true=>have:=Zv.mp q;subst this;rfl
  |false=>simp only[q] at h;exact LF h
theorem YS.QV {ω Zw:Wd}{loc:List (Str×AV)}{m:Str->Option h_}(h:YS ω loc m):YS Zw (QV m loc) m:=fun x a e=>by
 obtain ⟨⟨b,e1⟩,e2⟩:=LG e
 obtain ⟨v,h1,h2⟩:=h x b e1
 rw[h1] at e2;subst e2
 exact⟨v,h1,rfl,h2.handed⟩
theorem YS.AR {ω Zw:Wd}{loc:List (Str×AV)}{m m':Str->Option h_}(l:ω.le Zw) (h:YS ω loc m) {Zl:Wd}(h':YS Zl (Mine.QV m loc) m'):YS Zw loc m':=fun x a e=>by
 obtain ⟨v,h1,h2⟩:=h x a e
 have e2:=LF (m:=m) e
 rw[h1] at e2
 obtain ⟨v',h3,h4,_⟩:=h' x _ e2
 exact⟨v',h3,by rw[h4];exact h2.up l⟩
theorem Oq {A:gY}{h:Heap}{loc:List (Str×AV)}{os:List Gh}{L:Addr}{fs:Frs}{ω:Wd}{fv:h_}{vs:List h_}{f:AV}{as:List AV}{H0 Hb Hg:List AO}(e:List Nat) (hp:YB e (YI (Mine.YN e Hb.length) H0) Hb Hg)
  (rf:RV ω (f.Yb (Mine.YN e Hb.length)) fv) (rv:Xn ω (Yk (Mine.YN e Hb.length) as) vs) (hA:Wu n A L fs) (R:Rel G L ω ⟨loc,Hb,os⟩ fs h):
  ∃V8 AQ zc,RV AQ f fv/\Xn AQ as vs/\Wu n A L zc/\Rel G L AQ ⟨V8,H0,os⟩ zc h/\∀(r0:AV) (X_:List AO),gK e.length X_.length=true->∀v h',PG G RV L zc AQ (fun r' ZH=>r'=r0/\ZH=⟨V8,X_,os⟩) v h'->
   PG G RV L fs ω (fun r' ZH=>r'=r0.Yb (Mine.YN e Hb.length)/\ZH=⟨loc,XA e ((YI (Mine.YN e Hb.length) X_).take e.length) Hg++(YI (Mine.YN e Hb.length) X_).drop e.length,os⟩) v h':=by
 obtain ⟨m,lm,RR⟩:=R
 have hl:ω.ρ.length=Hb.length:=RR.len
 have hle:H0.length=e.length:=by have:=hp.len;rwa [TH.len (TH.to H0)] at this
 obtain ⟨hg,as',p1,p2,p3⟩:=RN (B:=ω.B) (ρ:=ω.ρ) hp hl
 have hel:=hp.lt
 generalize hr:Mine.YN e Hb.length=r at*
 have k1:∀i a,ω.ρ[r i]?=some a->as'[i]?=some a:=fun i a q=>by
  rw[<-hr] at q
  cases hi:e[i]? with
  |some j=>rw[Ud hi] at q;rw[p2 i j hi];exact q
  |none=>
   rw[MH (az.mp hi)] at q
   have:=(fD.mp q).1
   omega
 have T1:∀B,Tr ω.ρ as' B fun x y=>x=y.Yb r:=fun B=>Tr.SJ k1
 have Rs:Rel G L ⟨as',ω.B⟩ ⟨Mine.QV m loc,H0,os⟩ ((parts ω.B ω.ρ ω.ρ Hg).map .hid++fs) h:=by
  refine⟨m,YS.QV lm,by rw[p1,hle],RR.ss.YT fun V hV=> ?_⟩
  rw[Xc]
  exact TH.parts (T1 ω.B) (TH.SJ H0) (p3 _ _ hV)
 have qk:Wu n A L ((parts ω.B ω.ρ ω.ρ Hg).map .hid++fs):=⟨hA.rm,by rw[RL];exact hA.fr⟩
 have jN:∀{l:List AV}{vs:List h_},ZT ω.ρ ω.B (Yk r l) vs->ZT as' ω.B l vs:=fun x=>TL.reps (T1 ω.B) (TL.SJ _) x
 refine⟨Mine.QV m loc,⟨as',ω.B⟩,(parts ω.B ω.ρ ω.ρ Hg).map .hid++fs,T1 ω.B _ _ _ rfl rf,jN rv,qk,Rs,fun r0 X_ hk v h' y=> ?_⟩
 obtain ⟨r',ZH,Zw,⟨rfl,rfl⟩,l',⟨m',AP,R'⟩,rr⟩:=y
 obtain ⟨⟨new,hnew⟩,lB⟩:=l'
 have hnew:as'++new=Zw.ρ:=hnew
 have l'':ω.le ⟨ω.ρ++new,Zw.B⟩:=⟨fC _ _,lB⟩
 have k2:∀i a,Zw.ρ[i]?=some a->(ω.ρ++new)[r i]?=some a:=fun i a q=>by
  rw[<-hr,<-hnew] at*
  cases hi:e[i]? with
  |some j=>
   have hlt:=(fD.mp hi).1
   have hj:=hel j (ay hi)
   rw[Ud hi,c9 (by omega),<-p2 i j hi,<-c9 (l₂:=new) (by omega)]
   exact q
  |none=>
   have hge:=az.mp hi
   rw[MH hge,d9 (by omega)]
   rw[d9 (by omega)] at q
   rw[<-q];congr 1;omega
 have T2:Tr Zw.ρ (ω.ρ++new) Zw.B fun x y=>y=x.Yb r:=Tr.to k2
 refine⟨r'.Yb r,_,⟨ω.ρ++new,Zw.B⟩,⟨rfl,rfl⟩,l'',⟨m',YS.AR l'' lm AP,?_,?_⟩,T2 _ _ _ rfl rr⟩
 ·show (ω.ρ++new).length=_
  have h1:Zw.ρ.length=X_.length:=R'.len
  have h2:e.length<=X_.length:=gp hk
  rw[<-hnew] at h1
  rw[gA,gA,WJ,List.length_drop,TH.len (TH.to X_),hg]
  simp only[gA] at h1
  omega
 ·refine R'.ss.YT fun V hV=> ?_
  have h1:Zw.ρ.length=X_.length:=R'.len
  have h2:e.length<=X_.length:=gp hk
  rw[Xc] at hV
  have hV:=TH.parts T2 (TH.to X_) hV
  show Z0 (parts Zw.B (ω.ρ++new) (ω.ρ++new) _++frames fs) V
  rw[<-hnew,<-dz e.length (YI r X_)] at hV
  rw[Yr (by rw[fF,TH.len (TH.to X_)];omega),gG] at hV
  rw[Yr (by rw[WJ];omega),gG]
  refine LH (by omega) ?_ (fun i hi=>by have:=hel i hi;omega) p1 p2 ?_
  ·rw[fF,TH.len (TH.to X_)];omega
  ·refine Z0.RM (fun V x=> ?_) hV
   exact XM (fC _ _) lB (Z0.comm x)
theorem Z5.YN {f:AV}{as:List AV}{H0 X_ Hb Hg:List AO}{r0:AV}(c:Z5 G n f as H0 r0 X_) (e:List Nat) (hp:YB e (YI (Mine.YN e Hb.length) H0) Hb Hg) (hk:gK e.length X_.length=true):
  Z5 G n (f.Yb (Mine.YN e Hb.length)) (Yk (Mine.YN e Hb.length) as) Hb (r0.Yb (Mine.YN e Hb.length)) (XA e ((YI (Mine.YN e Hb.length) X_).take e.length) Hg++(YI (Mine.YN e Hb.length) X_).drop e.length):=fun loc os L fs ω fv vs rf rv A h hA R=>by
 obtain ⟨V8,AQ,zc,qj,wM,qi,R0,k⟩:=Oq e hp rf rv hA R
 exact(c V8 os qj wM qi R0).mono (fun v h' y=>k r0 X_ hk v h' y) fun _ _ y=>y.no
def AV.sc (k:Nat):AV->Bool| .loc n=>fZ n k| .YV _ _ _ cl=>cl.all fun x=>fZ x.2 k|_=>true
def AO.sc (k:Nat):AO->Bool
 | .inst _ fs=>fs.all fun x=>x.2.sc k
 | .list l=>l.all fun x=>x.sc k
 | .cell (some x)=>x.sc k
 | .dict l=>l.all fun x=>x.2.sc k
 | .lit n _=>fZ n k
 | .Vm n _=>fZ n k
 | .en n _=>fZ n k
 | .zp l=>l.all fun x=>x.1.sc k && x.2.sc k
 | .mb _ _ l=>l.all fun x=>x.sc k
 | .it _ els=>els.all fun x=>x.sc k
 |_=>true
def Y9 (k:Nat) (H:List AO):Bool:=H.all fun o=>o.sc k
abbrev ST (k:Nat):AV->AV->Prop:=fun x y=>x=y/\y.sc k=true
theorem all_cons {α:Type}{x:α}{l:List α}{p:α->Bool}(h:(x::l).all p=true):p x=true/\l.all p=true:=by rw[fP] at h;exact g6.mp h
theorem TL.sc {k:Nat}:∀{l:List AV},(l.all fun x=>x.sc k)=true->TL (ST k) l l
 | [],_=> .nil
 |x::l,h=> .cons ⟨rfl,(all_cons h).1⟩ (TL.sc (all_cons h).2)
theorem TK.sc {κ:Type}{k:Nat}:∀{l:List (κ×AV)},(l.all fun x=>x.2.sc k)=true->TK (ST k) l l
 | [],_=> .nil
 |(_,_)::l,h=> .cons ⟨rfl,(all_cons h).1⟩ (TK.sc (all_cons h).2)
theorem TP.sc {k:Nat}:∀{l:List (AV×AV)},(l.all fun x=>x.1.sc k && x.2.sc k)=true->TP (ST k) l l
 | [],_=> .nil
 |(_,_)::l,h=> .cons ⟨rfl,(g6.mp (all_cons h).1).1⟩ ⟨rfl,(g6.mp (all_cons h).1).2⟩ (TP.sc (all_cons h).2)
theorem TO.sc {k:Nat}{o:AO}(h:o.sc k=true):TO (ST k) o o:=by
 cases o with
 |gone=>exact .gone
 |inst=>exact .inst (TK.sc h)
 |list=>exact .list (TL.sc h)
 |Z_=>exact .Z_
 |cell x=>cases x;exact .Ot;exact .cell ⟨rfl,h⟩
 |dict=>exact .dict (TK.sc h)
 |lit=>exact .lit ⟨rfl,h⟩
 |Vm=>exact .Vm ⟨rfl,h⟩
 |en=>exact .en ⟨rfl,h⟩
 |zp=>exact .zp (TP.sc h)
 |mb=>exact .mb (TL.sc h)
 |tab=>exact .tab
 |it=>exact .it (TL.sc h)
 |X7=>exact .X7
theorem TH.sc {k:Nat}:∀{H:List AO},Y9 k H=true->TH (ST k) H H
 | [],_=> .nil
 |o::H,h=> .cons (TO.sc (all_cons h).1) (TH.sc (all_cons h).2)
theorem Ys.cut {ρ:List Addr}{k:Nat}:∀{l:List (Str×Nat)}{q:List (Str×Addr)},(l.all fun x=>fZ x.2 k)=true->Ys ρ l q->Ys (ρ.take k) l q
 | [],[],_,_=>trivial
 |_::_,_::_,s,⟨a,b,c⟩=>by
  rw[fP,g6] at s
  exact⟨a,by rw[aY (gk.mp s.1)];exact b,Ys.cut s.2 c⟩
 | [],_::_,_,h=>h.elim
 |_::_,[],_,h=>h.elim
theorem Ys.lt {ρ:List Addr}{k:Nat}(hk:ρ.length<=k):∀{l:List (Str×Nat)}{q:List (Str×Addr)},Ys ρ l q->(l.all fun x=>fZ x.2 k)=true
 | [],[],_=>rfl
 |_::_,_::_,⟨a,b,c⟩=>by
  rw[fP,g6]
  exact⟨gk.mpr (by have:=(fD.mp b).1;omega),Ys.lt hk c⟩
 | [],_::_,h=>h.elim
 |_::_,[],h=>h.elim
theorem Tr.sc {ρ:List Addr}{B:Part}{k:Nat}:Tr ρ (ρ.take k) B (ST k):=fun x y v ⟨e,s⟩ h=>by
 subst e
 cases x with
 |loc n=>obtain ⟨a,p,q⟩:=h;exact⟨a,by rw[aY (gk.mp s)];exact p,q⟩
 |YV=>obtain ⟨a,fd,e,x,y⟩:=h;exact⟨a,fd,e,x,y.cut s⟩
 |_=>exact h
def Wd.cut (ω:Wd) (k:Nat):Wd:=⟨ω.ρ.take k,ω.B⟩
theorem RV.cut {ω:Wd}{k:Nat}{a:AV}{v:h_}(h:RV ω a v) (s:a.sc k=true):RV (ω.cut k) a v:=Tr.sc _ _ _ ⟨rfl,s⟩ h
theorem Wd.le.cut {LD ω:Wd}{k:Nat}(l:LD.le ω) (h:LD.ρ.length<=k):LD.le (ω.cut k):=⟨by
 obtain ⟨t,e⟩:=l.1
 refine⟨t.take (k - LD.ρ.length),?_⟩
 show _=ω.ρ.take k
 rw[<-e,List.take_append,cC h],l.2⟩
theorem Rel.trim {L:Addr}{ω:Wd}{fs:Frs}{h:Heap}{loc YQ:List (Str×AV)}{H' g:List AO}{os os':List Gh}(R:Rel G L ω ⟨loc,H'++g,os⟩ fs h) (hs:Y9 H'.length H'=true)
  (hl:∀x a,lk YQ x=some a->∃b,lk loc x=some b/\∀v,RV ω b v->RV (ω.cut H'.length) a v):Rel G L (ω.cut H'.length) ⟨YQ,H',os'⟩ fs h:=by
 obtain ⟨m,lm,RR⟩:=R
 have hlen:ω.ρ.length=(H'++g).length:=RR.len
 rw[gA] at hlen
 refine⟨m,fun x a e=> ?_,?_,RR.ss.YT fun V hV=> ?_⟩
 ·obtain ⟨b,e1,k⟩:=hl x a e
  obtain ⟨v,e2,r⟩:=lm x b e1
  exact⟨v,e2,k v r⟩
 ·show (ω.ρ.take H'.length).length=H'.length
  rw[fF];omega
 ·show Z0 (parts ω.B (ω.ρ.take H'.length) (ω.ρ.take H'.length) H'++frames fs) V
  have hV:Z0 (parts ω.B ω.ρ ω.ρ (H'++g)++frames fs) V:=hV
  have e:ω.ρ=ω.ρ.take H'.length++ω.ρ.drop H'.length:=(dz _ _).symm
  have hV:Z0 (parts ω.B ω.ρ (ω.ρ.take H'.length) H'++(parts ω.B ω.ρ (ω.ρ.drop H'.length) g++frames fs)) V:=by
   rw[<-gG,<-Yr (by rw[fF];omega),<-e];exact hV
  refine TH.parts Tr.sc (TH.sc hs) (Z0.RM (fun V x=> ?_) hV)
  exact Z0.drop x
def En (k:Nat) (r' r:AV):Prop:=(r'=r/\r.sc k=true)\/r= .any
theorem En.rv {ω:Wd}{k:Nat}{r r':AV}{v:h_}(w:En k r' r) (h:RV ω r' v):RV (ω.cut k) r v:=by
 rcases w with ⟨rfl,s⟩|rfl
 ·exact h.cut s
 ·exact h.handed
theorem Z5.mk {f:AV}{as:List AV}{H H':List AO}{r:AV}(hk:gK H.length H'.length=true) (hs:Y9 H'.length H'=true)
  (c:∀loc,∃Yq,Ve G n f as ⟨loc,H,Yq⟩ (fun r' ZH=>ZH.loc=loc/\En H'.length r' r/\∃g,ZH.hp=H'++g) Zn):Z5 G n f as H r H':=fun loc os L fs ω fv vs rf rv A h hA R=>by
 obtain ⟨Yq,c⟩:=c loc
 obtain ⟨m,lm,RR⟩:=id R
 have hlen:ω.ρ.length=H.length:=RR.len
 have hk':=gp hk
 refine(c rf rv hA (show Rel G L ω ⟨loc,H,Yq⟩ fs h from R)).mono (fun v h' y=> ?_) fun _ _ y=>y.no
 obtain ⟨r',⟨YQ,mX,os'⟩,Zw,⟨e1,w,g,e2⟩,l',R',rr⟩:=y
 have e1:YQ=loc:=e1
 have e2:mX=H'++g:=e2
 subst e1 e2
 refine⟨r,_,Zw.cut H'.length,⟨rfl,rfl⟩,l'.cut (by omega),Rel.trim R' hs (fun x a e=>⟨a,e,fun v q=> ?_⟩),w.rv rr⟩
 obtain ⟨v0,e0,r0⟩:=lm x a e
 refine q.cut ?_
 cases a with
 |loc i=>obtain ⟨_,p,_⟩:=r0;exact gk.mpr (by have:=(fD.mp p).1;omega)
 |YV=>obtain ⟨_,_,_,_,y⟩:=r0;exact y.lt (by omega)
 |_=>rfl
def Hy (k:Nat) (loc:List (Str×AV)):List (Str×AV)->Prop
 | []=>True
 |(x,a)::r=>(∃b,lk loc x=some b/\En k b a)/\Hy k loc r
theorem Hy.get {k:Nat}{loc:List (Str×AV)}{x:Str}{a:AV}:∀{YQ:List (Str×AV)},Hy k loc YQ->lk YQ x=some a->∃b,lk loc x=some b/\En k b a
 | [],_,e=>by cases e
 |(y,c)::r,⟨h1,h2⟩,e=>by
  unfold lk at e
  cases q:sq y x with
  |true=>rw[q] at e;cases e;rw[<-Zv.mp q];exact h1
  |false=>rw[q] at e;exact Hy.get h2 e
def YA (k:Nat) (x y:Zk):Prop:=match x with
 | .next=>(match y with| .next=>True|_=>False)
 | .brk=>(match y with| .brk=>True|_=>False)
 | .cont=>(match y with| .cont=>True|_=>False)
 | .ret a=>(match y with| .ret b=>En k a b|_=>False)
theorem YA.rf {ω:Wd}{k:Nat}{r r':Zk}{v:Flow}(w:YA k r' r) (h:RF ω r' v):RF (ω.cut k) r v:=by
 cases r' with
 |ret a=>cases r with
  |ret b=>exact let ⟨v,e,h⟩:=h;⟨v,e,En.rv w h⟩
  |_=>exact gV w
 |_=>cases r<;>first|exact h|exact gV w
def Zp {α:Type}(Wk:Nat->α->α->Prop) (k0:Nat) (fl:α) (YQ:List (Str×AV)) (H':List AO):α->St->Prop:=fun Fe ZH=>k0<=H'.length/\Y9 H'.length H'=true/\Wk H'.length Fe fl/\Hy H'.length ZH.loc YQ/\∃g,ZH.hp=H'++g
theorem PG.trim {ι α:Type}{RR:Wd->ι->α->Prop}{Wk:Nat->ι->ι->Prop}(wk:∀{ω k r r' v},Wk k r' r->RR ω r' v->RR (ω.cut k) r v) {L:Addr}{fs:Frs}{ω:Wd}{K K':ι->St->Prop}{v:α}{h':Heap}
  (k:∀a σ,K a σ->∃a' YQ H' os,Zp Wk ω.ρ.length a' YQ H' a σ/\K' a' ⟨YQ,H',os⟩) (p:PG G RR L fs ω K v h'):PG G RR L fs ω K' v h':=by
 obtain ⟨a,⟨loc,hp,os⟩,Zw,kk,l',R',rr⟩:=p
 obtain ⟨a',YQ,H',os',⟨q1,q2,q3,q4,g,q5⟩,q6⟩:=k _ _ kk
 have q5:hp=H'++g:=q5
 subst q5
 exact⟨a',_,Zw.cut H'.length,q6,l'.cut q1,Rel.trim R' q2 (fun x b e=>let ⟨c,e1,w⟩:=Hy.get q4 e;⟨c,e1,fun v q=>w.rv q⟩),wk q3 rr⟩
theorem J.trim {ι α:Type}{RR:Wd->ι->α->Prop}{Wk:Nat->ι->ι->Prop}(wk:∀{ω k r r' v},Wk k r' r->RR ω r' v->RR (ω.cut k) r v) {t:Env->Sem α}{loc:List (Str×AV)}{H:List AO}{os Yq:List Gh}{K K':ι->St->Prop}
  (x:J G n Φ RR t ⟨loc,H,Yq⟩ K Zn) (k:∀a σ,K a σ->∃a' YQ H' os,Zp Wk H.length a' YQ H' a σ/\K' a' ⟨YQ,H',os⟩):J G n Φ RR t ⟨loc,H,os⟩ K' Zn:=fun env ω fs he=> @fun A h hA R=>by
 obtain ⟨m,lm,jM⟩:=id R
 have hlen:ω.ρ.length=H.length:=jM.len
 exact(x he hA (show Rel G env.locals ω ⟨loc,H,Yq⟩ fs h from R)).mono (fun v h' p=>PG.trim wk (fun a σ q=>by rw[hlen];exact k a σ q) p) fun _ _ y=>y.no
theorem Wb.mk {s:Stmt}{loc YQ:List (Str×AV)}{H H':List AO}{fl:Zk}{Yq:List Gh}(c:We G n Φ s ⟨loc,H,Yq⟩ (Zp YA H.length fl YQ H') Zn):Wb G n Φ s loc H fl YQ H':=fun os=>
 J.trim (os:=os) YA.rf c fun a σ q=>⟨fl,YQ,H',os,q,rfl,rfl⟩
theorem Ys.CD {ρ Yy:List Addr}{k:Nat}(h:∀(n:Nat),n<k->Yy[n]?=ρ[n]?):∀{l:List (Str×Nat)}{q:List (Str×Addr)},(l.all fun x=>fZ x.2 k)=true->Ys ρ l q->Ys Yy l q
 | [],[],_,_=>trivial
 |_::_,_::_,s,⟨a,b,c⟩=>by
  rw[fP,g6] at s
  exact⟨a,(h _ (gk.mp s.1)).trans b,Ys.CD h s.2 c⟩
 | [],_::_,_,h=>h.elim
 |_::_,[],_,h=>h.elim
theorem AV.CB {ρ:List Addr}{B:Part}{k:Nat}(hk:ρ.length<=k) {a:AV}{v:h_}(h:Rep ρ B a v):a.sc k=true:=by
 cases a with
 |loc i=>obtain ⟨_,p,_⟩:=h;exact gk.mpr (by have:=(fD.mp p).1;omega)
 |YV=>obtain ⟨_,_,_,_,y⟩:=h;exact y.lt hk
 |_=>rfl
theorem Rep.same {ρ Yy:List Addr}{B:Part}{k:Nat}(h:∀n,n<k->Yy[n]?=ρ[n]?) {a:AV}{v:h_}(s:a.sc k=true) (x:Rep ρ B a v):Rep Yy B a v:=by
 cases a with
 |loc i=>obtain ⟨b,p,e⟩:=x;exact⟨b,(h _ (gk.mp s)).trans p,e⟩
 |YV=>obtain ⟨a,fd,e,x,y⟩:=x;exact⟨a,fd,e,x,y.CD h s⟩
 |_=>exact x
theorem Z5.sel {f:AV}{as:List AV}{H H1 H' Hg:List AO}{r1 r:AV}(c:Z5 G n f as H r1 H1) (e:List Nat) (hp:YB e (YI (Mine.YN e H1.length) H') H1 Hg) (h0:e.take H.length=eY H.length) (hr:r1=r.Yb (Mine.YN e H1.length)):Z5 G n f as H r H':=fun loc os L fs ω fv vs rf rv A h hA R=>by
 obtain ⟨m,lm,RR⟩:=id R
 have hlen:ω.ρ.length=H.length:=RR.len
 refine(c loc os rf rv hA R).mono (fun v h' y=> ?_) fun _ _ y=>y.no
 obtain ⟨r',ZH,Zw,⟨rfl,rfl⟩,l',⟨m',AP,R'⟩,rr⟩:=y
 have hl:Zw.ρ.length=H1.length:=R'.len
 have hle:H'.length=e.length:=by have:=hp.len;rwa [TH.len (TH.to H')] at this
 obtain ⟨hg,as',p1,p2,p3⟩:=RN (B:=Zw.B) (ρ:=Zw.ρ) hp hl
 have hel:=hp.lt
 have hlow:∀i,i<H.length->e[i]?=some i:=fun i hi=>by
  have:(e.take H.length)[i]?=(eY H.length)[i]?:=by rw[h0]
  rw[aY hi,List.getElem?_range hi] at this
  exact this
 have same:∀i,i<H.length->as'[i]?=Zw.ρ[i]?:=fun i hi=>p2 i i (hlow i hi)
 have hk:H.length<=as'.length:=by
  rw[p1]
  have:=congrArg List.length h0
  rw[fF,List.length_range] at this
  omega
 have pre:ω.ρ<+:as':=by
  refine⟨as'.drop H.length,?_⟩
  have:ω.ρ=as'.take H.length:=by
   refine List.ext_getElem? fun i=> ?_
   by_cases hi:i<H.length
   ·rw[aY hi,same i hi]
    obtain ⟨t,et⟩:=l'.1
    rw[<-et,c9 (by omega)]
   ·rw[aA (by omega),aA (by rw[fF];omega)]
  rw[this,dz]
 have k1:∀i a,Zw.ρ[Mine.YN e H1.length i]?=some a->as'[i]?=some a:=fun i a q=>by
  cases hi:e[i]? with
  |some j=>rw[Ud hi] at q;rw[p2 i j hi];exact q
  |none=>
   rw[MH (az.mp hi)] at q
   have:=(fD.mp q).1
   omega
 have T1:Tr Zw.ρ as' Zw.B fun x y=>x=y.Yb (Mine.YN e H1.length):=Tr.SJ k1
 refine⟨r,_,⟨as',Zw.B⟩,⟨rfl,rfl⟩,⟨pre,l'.2⟩,⟨m',fun x a q=> ?_,by rw[p1,hle],R'.ss.YT fun V hV=> ?_⟩,T1 _ _ _ hr rr⟩
 ·obtain ⟨v,e1,r1⟩:=AP x a q
  obtain ⟨v0,e0,r0⟩:=lm x a q
  exact⟨v,e1,Rep.same same (AV.CB (by omega) r0) r1⟩
 ·refine TH.parts T1 (TH.SJ H') (Z0.RM (fun V x=> ?_) (p3 _ _ hV))
  exact Z0.drop x
theorem Z5.use {f f':AV}{as as':List AV}{H0 X_ Hb Hg VM:List AO}{r0 r':AV}(c:Z5 G n f as H0 r0 X_) (e:List Nat) (hp:YB e (YI (Mine.YN e Hb.length) H0) Hb Hg) (hk:gK e.length X_.length=true)
  (hf:f.Yb (Mine.YN e Hb.length)=f') (ha:Yk (Mine.YN e Hb.length) as=as') (hr:r0.Yb (Mine.YN e Hb.length)=r') (hb:XA e ((YI (Mine.YN e Hb.length) X_).take e.length) Hg++(YI (Mine.YN e Hb.length) X_).drop e.length=VM):Z5 G n f' as' Hb r' VM:=by
 subst hf ha hr hb
 exact Z5.YN c e hp hk
theorem qh {α:Type}{l:List α}(h:l.length=2):∃a b,l= [a,b]:=by
 cases l with
 |nil=>cases h
 |cons a r=>cases r with
  |nil=>cases h
  |cons b r=>cases r with
   |nil=>exact⟨a,b,rfl⟩
   |cons=>cases h
theorem Z5.UI {f:AV}{as:List AV}{H H1:List AO}{r:AV}{i j:Nat}{C:Addr}{x:Str}{l':List AV}{o:AO}
  (c:Z5 G n f as H r H1) (h1:H1[i]?=some (.inst C [(x,.loc j)])) (h2:H1[j]?=some o) (ho:ZC o=some l') (hij:i≠j):
  Z5 G n f as H r (((H1.set i .gone).set j .gone).set i (.mb C x l')):=fun loc os L fs ω fv vs rf rv A h hA R=>by
 refine(c loc os rf rv hA R).mono (fun v h' y=> ?_) fun _ _ y=>y.no
 obtain ⟨r',ZH,Zw,⟨rfl,rfl⟩,lw,⟨m',AP,R'⟩,rr⟩:=y
 have hl:Zw.ρ.length=H1.length:=R'.len
 refine⟨r',_,Zw,⟨rfl,rfl⟩,lw,⟨m',AP,by simp[hl],R'.ss.YT fun V hV=> ?_⟩,rr⟩
 have hp:YB [i,j] [.inst C [(x,.loc j)],o] H1 ((H1.set i .gone).set j .gone):= .cons h1 (.cons (by rw[aC hij];exact h2) .nil)
 obtain ⟨hg,as',p1,p2,p3⟩:=RN (B:=Zw.B) (ρ:=Zw.ρ) hp hl
 have hi':i<H1.length:=(fD.mp h1).1
 obtain ⟨a,b,rfl⟩:=qh p1
 have z:=p3 (frames fs) V hV
 ·skip
  have ea:Zw.ρ[i]?=some a:=(p2 0 i rfl).symm
  have eb:Zw.ρ[j]?=some b:=(p2 1 j rfl).symm
  obtain ⟨V1,V2,d,l1,l2,⟨g,hf,I⟩,V3,V4,d',l3,l4,LP,rest⟩:=z
  have hgf:g=fun y=>if y=x then some (.ref b) else none:=by
   funext y
   have:=hf y
   unfold lk at this
   cases e:sq x y with
   |true=>
    rw[e] at this
    obtain ⟨v,e1,ad,e2,e3⟩:=this
    rw[eb] at e2;cases e2
    rw[if_pos (Zv.mp e).symm,e1,e3]
   |false=>
    rw[e] at this
    rw[if_neg (fun q=>by rw[q,Zv.mpr rfl] at e;cases e)];exact this
  obtain ⟨us,ru,LL⟩:∃us,ZT Zw.ρ Zw.B l' us/\V9 b us V3:=(Xm ho).mp LP
  have mW:∀y,V1 y≠none->V3 y=none:=fun y hy=>Zr l3 (d y hy)
  have d4:∀y,Xi V1 V3 y≠none->V4 y=none:=fun y hy=>by
   cases e:V1 y with
   |some o=>exact Zr l4 (d y (by rw[e];exact fun z=>nomatch z))
   |none=>refine d' y fun q=>hy (Yw e q)
  have z':Z0 (parts Zw.B Zw.ρ [a] [.mb C x l']++(parts Zw.B Zw.ρ Zw.ρ ((H1.set i .gone).set j .gone)++frames fs)) V:=
   ⟨Xi V1 V3,V4,d4,Sq l1 (l3.trans l2),l4.trans l2,⟨b,us,V1,V3,mW,WY,Wg mW,ru,hgf▸I,LL⟩,rest⟩
  exact LH (e:= [i]) (os:= [.mb C x l']) (as:= [a]) (by simp[hl]) rfl (fun y hy=>by simp at hy;subst hy;simpa using hi') rfl (fun y k e=>by
   cases y with
   |zero=>simp at e;subst e;simpa using ea.symm
   |succ y=>simp at e) z'
theorem Z5.opened {f:AV}{as:List AV}{H H1:List AO}{r:AV}{i:Nat}{C:Addr}{x:Str}{l:List AV}(hi:H[i]?=some (.mb C x l))
  (c:Z5 G n f as (H.set i (.inst C [(x,.loc H.length)])++ [.list l]) r H1):
  Z5 G n f as H r H1:=fun loc os L fs ω fv vs rf rv A h hA R=>by
 obtain ⟨m,lm,RR⟩:=id R
 have hlen:ω.ρ.length=H.length:=RR.len
 obtain ⟨sp,S0⟩:∃sp,SS G.hS ω.B L m (parts ω.B (ω.ρ++ [sp]) (ω.ρ++ [sp]) (H.set i (.inst C [(x,.loc H.length)])++ [.list l])++frames fs) h:=by
  obtain ⟨V,S,q⟩:=RR.ss
  obtain ⟨a,pre,post,q1,q2,q3⟩:=YM (B:=ω.B) (ρ:=ω.ρ) RR.len hi
  have q0:=q
  rw[q2,gG] at q0
  obtain ⟨V1,V2,d,l1,l2,⟨sp,us,W1,W2,dd,k1,k2,rr,I,LL⟩,rest⟩:=Z0.YK q0
  refine⟨sp,V,S,?_⟩
  obtain ⟨a',pre',post',p1,p2,p3⟩:=YM (B:=ω.B) (ρ:=ω.ρ++ [sp]) RR.len hi
  obtain rfl:a'=a:=by rw[q1] at p1;exact(gj p1).symm
  have rest':Z0 (pre'++(post'++frames fs)) V2:=by
   have z:Z0 (parts ω.B ω.ρ ω.ρ (H.set i .gone)++frames fs) V2:=by
    rw[q3,gG];exact Z0.Yo (Z0.qL rest)
   have z:=XM (B':=ω.B) (fC ω.ρ [sp]) Le.rfl z
   rw[p3,gG] at z
   exact(Z0.YK z).weak
  rw[Yr (by rw[c7];exact RR.len),gG]
  have jL:(ω.ρ++ [sp])[H.length]?=some sp:=by rw[<-hlen];simp
  have pI:Y3 (ω.ρ++ [sp]) ω.B a' (.inst C [(x,.loc H.length)]) W1:=⟨_,fun y=>by
   show OW _ _ (lk [(x,AV.loc H.length)] y) (if y=x then some (.ref sp) else none)
   unfold lk
   cases e:sq x y with
   |true=>rw[if_pos (Zv.mp e).symm];exact⟨_,rfl,sp,jL,rfl⟩
   |false=>rw[if_neg (fun q=>by rw[q,Zv.mpr rfl] at e;cases e)];rfl,I⟩
  have pL:Y3 (ω.ρ++ [sp]) ω.B sp (.list l) W2:=⟨us,ZT.mono (fC _ _) Le.rfl rr,LL⟩
  have d2:∀b,W2 b≠none->V2 b=none:=fun b hb=>d b (XN k2 hb)
  have all:Z0 (Y3 (ω.ρ++ [sp]) ω.B a' (.inst C [(x,.loc H.length)])::Y3 (ω.ρ++ [sp]) ω.B sp (.list l)::(pre'++(post'++frames fs))) V:=
   ⟨W1,Xi W2 V2,fun b hb=>Yw (dd b hb) (d b (XN k1 hb)),k1.trans l1,Sq (k2.trans l1) l2,pI,W2,V2,d2,WY,Wg d2,pL,rest'⟩
  have all2:Z0 (Y3 (ω.ρ++ [sp]) ω.B sp (.list l)::((pre'++Y3 (ω.ρ++ [sp]) ω.B a' (.inst C [(x,.loc H.length)])::post')++frames fs)) V:=by
   rw[gG]
   exact Z0.map (fun V z=>Z0.Yo (pre:=pre') z) (Z0.swap all)
  rw[p3]
  exact Z0.Yo all2
 let ZR:Wd:=⟨ω.ρ++ [sp],ω.B⟩
 have ZX:ω.le ZR:=⟨fC _ _,Le.rfl⟩
 have ZK:Rel G L ZR ⟨loc,H.set i (.inst C [(x,.loc H.length)])++ [.list l],os⟩ fs h:=⟨m,YS.up ZX lm,by show (ω.ρ++ [sp]).length=_;simp[hlen],S0⟩
 refine(c loc os (rf.up ZX) (Xn.up ZX rv) hA ZK).mono (fun v h' y=> ?_) fun _ _ y=>y.no
 obtain ⟨r',ZH,Zw,q,lw,R',rr⟩:=y
 exact⟨r',ZH,Zw,q,ZX.trans lw,R',rr⟩
theorem Z5.box {f:AV}{as:List AV}{H H1:List AO}{r:AV}{i j:Nat}{C:Addr}{x:Str}{l l':List AV}{o:AO}(hi:H[i]?=some (.mb C x l))
  (c:Z5 G n f as (H.set i (.inst C [(x,.loc H.length)])++ [.list l]) r H1) (h1:H1[i]?=some (.inst C [(x,.loc j)])) (h2:H1[j]?=some o) (ho:ZC o=some l') (hij:i≠j):
  Z5 G n f as H r (((H1.set i .gone).set j .gone).set i (.mb C x l')):=
 (Z5.opened hi c).UI h1 h2 ho hij
abbrev SA (k:Nat):AV->AV->Prop:=fun x y=>(x=y/\y.sc k=true)\/y= .any
theorem Tr.sa {ρ:List Addr}{B:Part}{k:Nat}:Tr ρ (ρ.take k) B (SA k):=fun x y v t h=>by
 rcases t with t|rfl
 ·exact Tr.sc _ _ _ t h
 ·exact h.handed
theorem Z5.less {f:AV}{as:List AV}{H Hx g H':List AO}{r1 r:AV}(c:Z5 G n f as H r1 (Hx++g)) (hk:gK H.length H'.length=true) (ht:TH (SA H'.length) Hx H') (hr:En H'.length r1 r):Z5 G n f as H r H':=fun loc os L fs ω fv vs rf rv A h hA R=>by
 obtain ⟨m,lm,RR⟩:=id R
 have hlen:ω.ρ.length=H.length:=RR.len
 have hk':=gp hk
 refine(c loc os rf rv hA R).mono (fun v h' y=> ?_) fun _ _ y=>y.no
 obtain ⟨r',ZH,Zw,⟨rfl,rfl⟩,l',⟨m',AP,R'⟩,rr⟩:=y
 have hl:Zw.ρ.length=(Hx++g).length:=R'.len
 have hx:=ht.len
 rw[gA] at hl
 refine⟨r,_,Zw.cut H'.length,⟨rfl,rfl⟩,l'.cut (by omega),⟨m',fun x a e=> ?_,?_,R'.ss.YT fun V hV=> ?_⟩,hr.rv rr⟩
 ·obtain ⟨v0,e0,r0⟩:=lm x a e
  obtain ⟨v1,e1,r1⟩:=AP x a e
  exact⟨v1,e1,RV.cut r1 (AV.CB (by omega) r0)⟩
 ·show (Zw.ρ.take H'.length).length=H'.length
  rw[fF];omega
 ·show Z0 (parts Zw.B (Zw.ρ.take H'.length) (Zw.ρ.take H'.length) H'++frames fs) V
  have hV:Z0 (parts Zw.B Zw.ρ Zw.ρ (Hx++g)++frames fs) V:=hV
  have e:Zw.ρ=Zw.ρ.take H'.length++Zw.ρ.drop H'.length:=(dz _ _).symm
  have hV:Z0 (parts Zw.B Zw.ρ (Zw.ρ.take H'.length) Hx++(parts Zw.B Zw.ρ (Zw.ρ.drop H'.length) g++frames fs)) V:=by
   rw[<-gG,<-Yr (by rw[fF];omega),<-e];exact hV
  exact TH.parts Tr.sa ht (Z0.RM (fun V x=>Z0.drop x) hV)
theorem TO.sa {k:Nat}{o:AO}(h:TO (ST k) o o):TO (SA k) o o:=h.imp .inl
end
theorem Hw {α:Type}{x:Str}{a:α}{l:List (Str×α)}:lk l x=some a->(x,a)∈l:=by
 induction l with
 |nil=>intro h;cases h
 |cons p r ih=>
  intro h
  have h:(match sq p.1 x with|true=>some p.2|false=>lk r x)=some a:=h
  cases q:sq p.1 x with
  |true=>rw[q] at h;cases h;rw[<-Zv.mp q];exact .head _
  |false=>rw[q] at h;exact .tail _ (ih h)
theorem SH {α:Type}{x:Nat}{a:α}{l:List (Nat×α)}:Ux l x=some a->(x,a)∈l:=by
 induction l with
 |nil=>intro h;cases h
 |cons p r ih=>
  intro h
  have h:(match gZ p.1 x with|true=>some p.2|false=>Ux r x)=some a:=h
  cases q:gZ p.1 x with
  |true=>rw[q] at h;cases h;rw[<-e_ q];exact .head _
  |false=>rw[q] at h;exact .tail _ (ih h)
theorem Hv {x:Str}{l:List Str}:Td x l=true->x∈l:=by
 induction l with
 |nil=>intro h;cases h
 |cons y r ih=>
  intro h
  have h:(match sq y x with|true=>true|false=>Td x r)=true:=h
  cases q:sq y x with
  |true=>rw[<-Zv.mp q];exact .head _
  |false=>rw[q] at h;exact .tail _ (ih h)
theorem Zh {α β:Type}{f g:α->β}{l:List α}(h:l.map f=l.map g) {x:α}(hx:x∈l):f x=g x:=List.map_inj_left.mp h x hx
theorem wL (P:g9):(gR.map fun x=>nsIn (Hd.KL P) mainGlobals x.1)=gR.map fun x=>some (some (.ref x.2)):=by rfl'
theorem wK (P:g9):(gB.map fun x=>(nsIn (Hd.KL P) mainGlobals x.1,bootBuiltins x.1,sq x.1 "__name__"))=gB.map fun x=>(some none,some (C6 x.2),false):=by rfl'
theorem wJ (P:g9):(gI.map fun x=>nsIn (Hd.KL P) mainGlobals x.1)=gI.map fun x=>some (some (.int x.2.1 x.2.2)):=by rfl'
theorem wI (P:g9):(gS.map fun x=>nsIn (Hd.KL P) mainGlobals x.1)=gS.map fun x=>some (some (.str x.2.1 x.2.2)):=by rfl'
theorem plain1 (P:g9):nsIn (Hd.KL P) mainGlobals "PLAIN" =some (some (.ref 366)):=by rfl'
theorem plain2 (P:g9):(Hd.KL P).lookup 366=some (WZ [.str "any" 698,.str "set" 699,.str "syntax" 700,.str "at" 701,.str "back" 702]):=by rfl'
theorem Hu {B:Part}:ZE B Hz [.str "any" 698,.str "set" 699,.str "syntax" 700,.str "at" 701,.str "back" 702]:=
 ⟨_,_,rfl,⟨_,rfl⟩,_,_,rfl,⟨_,rfl⟩,_,_,rfl,⟨_,rfl⟩,_,_,rfl,⟨_,rfl⟩,_,_,rfl,⟨_,rfl⟩,rfl⟩
theorem wH {G:Gm}{P:g9}(hK:G.K=Hd.KL P):∀x a,lk T0.gl x=some a->P8 G x a:=fun x a h=>by
 rcases gy.mp (Hw h) with e|h
 ·cases e
  exact⟨_,.inl (hK▸plain1 P),fun B hB=>⟨_,_,rfl,hB _ _ (G.Z.k _ _ (hK▸plain2 P)),Hu⟩⟩
 rcases aW.mp h with h|h
 ·obtain ⟨y,hy,e⟩:=dX.mp h
  cases e
  exact⟨_,.inl (hK▸Zh (wL P) hy),fun B _=>⟨rfl,rfl⟩⟩
 rcases aW.mp h with h|h
 ·obtain ⟨y,hy,e⟩:=dX.mp h
  cases e
  have q:=Zh (wK P) hy
  exact⟨_,.inr ⟨hK▸congrArg (·.1) q,congrArg (·.2.1) q,fun z=>by have:=(congrArg (·.2.2) q).symm.trans (Zv.mpr z);cases this⟩,fun B _=>rfl⟩
 rcases aW.mp h with h|h
 ·obtain ⟨y,hy,e⟩:=dX.mp h
  cases e
  exact⟨_,.inl (hK▸Zh (wJ P) hy),fun B _=>⟨_,rfl⟩⟩
 ·obtain ⟨y,hy,e⟩:=dX.mp h
  cases e
  exact⟨_,.inl (hK▸Zh (wI P) hy),fun B _=>⟨_,rfl⟩⟩
def Py (K:Frag) (a:Nat):fL:=match K.lookup a with|some o=>(match o.data with| .func fd=>fd|_=>default)|none=>default
abbrev Nz (P:g9) (x:Nat×Fn):fL:=Py (Hd.KL P) x.1
theorem wG (P:g9):(SI.map fun x=>((Hd.KL P).lookup x.1).map (·.data))=SI.map fun x=>some (.func (Nz P x)):=by rfl'
theorem Em (P:g9):(SI.map fun x=>(Nz P x).body)=SI.map fun x=> .stmts x.2.body:=by rfl'
theorem wF (P:g9):(SI.map fun x=>(Nz P x).scope)=SI.map fun x=>x.2.sc:=by rfl'
theorem wD (P:g9):(SI.map fun x=>((Nz P x).closure,(Nz P x).globals,(Nz P x).builtins))=SI.map fun _=>([],mainGlobals,builtinsNs):=by rfl'
theorem wC:(SI.map fun x=>(x.2.sc.kind,x.2.sc.isGenerator,x.2.sc.isCoroutine))=SI.map fun _=>(.function,false,false):=by rfl'
theorem CA (P:g9):(SI.map fun x=>(codeIn (Hd.KL P) (Nz P x).code (Nz P x).qualname,gw (Hd.KL P) (.ref x.1)))=SI.map fun _=>(true,true):=by rfl'
theorem wB (P:g9):(SI.map fun x=>x.2.cd.map fun _=>((Nz P x).code,(Nz P x).qualname++ ".<locals>."))=SI.map fun x=>x.2.cd.map fun c=>(.ref c.1,c.2):=by rfl'
def ar (k:Nat) (x:Nat×Fn):Bool:=match x.2.ex with| []=>gZ x.2.ps.length k|_=>false
abbrev BG (P:g9) (vs:List h_):Prop:=((SI.filter (ar vs.length)).map fun x=>bindArgs (Nz P x) ⟨vs,[]⟩)=(SI.filter (ar vs.length)).map fun x=>pure (gH x.2.ps vs)
theorem wA (P:g9):BG P []:=by rfl'
theorem bind1 (P:g9) (a:h_):BG P [a]:=by rfl'
theorem wz (P:g9) (a b:h_):BG P [a,b]:=by rfl'
theorem wu (P:g9) (a b c:h_):BG P [a,b,c]:=by rfl'
theorem wo (P:g9) (a b c d:h_):BG P [a,b,c,d]:=by rfl'
theorem wm (P:g9) (a b c d e:h_):BG P [a,b,c,d,e]:=by rfl'
theorem wi (P:g9) (a b c d e f:h_):BG P [a,b,c,d,e,f]:=by rfl'
theorem wg (P:g9) (a b c d e f g:h_):BG P [a,b,c,d,e,f,g]:=by rfl'
def Gen {α:Type}:Nat->(List α->Prop)->Prop
 |0,P=>P []
 |n+1,P=>∀a,Gen n fun r=>P (a::r)
theorem Ht {α:Type}{n:Nat}:∀{P:List α->Prop},Gen n P->∀vs,vs.length=n->P vs:=by
 induction n with
 |zero=>
  intro P g vs h
  cases vs with
  |nil=>exact g
  |cons=>cases h
 |succ n ih=>
  intro P g vs h
  cases vs with
  |nil=>cases h
  |cons a r=>exact ih (g a) r (cT.inj h)
theorem bindG (P:g9) {k:Nat}(h:gK k 7=true):Gen k (BG P):=by
 cases k with
 |zero=>exact wA P
 |succ k=>cases k with
  |zero=>exact bind1 P
  |succ k=>cases k with
   |zero=>exact wz P
   |succ k=>cases k with
    |zero=>exact wu P
    |succ k=>cases k with
     |zero=>exact wo P
     |succ k=>cases k with
      |zero=>exact wm P
      |succ k=>cases k with
       |zero=>exact wi P
       |succ k=>cases k with
        |zero=>exact wg P
        |succ k=>cases h
theorem we:(SI.map fun x=>gK x.2.ps.length 7)=SI.map fun _=>true:=by rfl'
theorem Oo (P:g9) {x:Nat×Fn}(hx:x∈SI) (he:x.2.ex= []) (vs:List h_) (hv:vs.length=x.2.ps.length):bindArgs (Nz P x) ⟨vs,[]⟩=pure (gH x.2.ps vs):=
 Zh (Ht (bindG P (Zh we hx)) vs hv) (List.mem_filter.mpr ⟨hx,by unfold ar;rw[he,hv];exact c_ _⟩)
abbrev MG (P:g9) (x:Nat×Fn):Prop:=∀vs:List h_,vs.length=x.2.ps.length->rq (Hd.KL P) x.2 (Nz P x) vs
theorem MF (P:g9) {x:Nat×Fn}(hx:x∈SI) (he:x.2.ex= []):MG P x:=fun vs hv=>
 ⟨[],by rw[he];rfl,fun s X=>by rw[gE];exact BindsTo.of_eq (Oo P hx he vs hv),fun _=>Oo P hx he vs hv,fun B=>by rw[he];exact rfl⟩
abbrev mV:List (Nat×Fn):= [(547,Zc 59 (some 0) ["self","code","view","table","point"] [("steps",.int 400000)]),(729,Zc 77 (some 0) ["self"] [("parent",.none)]),(1071,Zc 97 (some 0) ["self","number","name"] [("room",.int 8)]),(1323,Zc 108 none ["buffer","place","codes"] [("before_markers",.bool false)])]
theorem wc:(SI.filter fun x=> !x.2.ex.isEmpty)=mV:=by rfl'
theorem qg (P:g9):(Py (Hd.KL P) 547).defaults= .ref 540:=by rfl'
theorem qf (P:g9):((Hd.KL P).lookup 540)=some (WZ [.int 0 983,.int 400000 936]):=by rfl'
theorem qe (P:g9) (a b c d e:h_):(Xh (Py (Hd.KL P) 547) [a,b,c,d,e]).1 (some #[.int 0 983,.int 400000 936])=pure (gH (["self","code","view","table","point"]:List Str) [a,b,c,d,e]++ [(("steps" :Str),h_.int 400000 936)]):=by rfl'
theorem qd (P:g9):(Py (Hd.KL P) 729).defaults= .ref 722:=by rfl'
theorem qc (P:g9):((Hd.KL P).lookup 722)=some (WZ [.none]):=by rfl'
theorem qb (P:g9) (a:h_):(Xh (Py (Hd.KL P) 729) [a]).1 (some #[.none])=pure (gH (["self"]:List Str) [a]++ [(("parent" :Str),fO)]):=by rfl'
theorem v_ (P:g9):(Py (Hd.KL P) 1071).defaults= .ref 1064:=by rfl'
theorem v9 (P:g9):((Hd.KL P).lookup 1064)=some (WZ [.int 8 1744]):=by rfl'
theorem v8 (P:g9) (a b c:h_):(Xh (Py (Hd.KL P) 1071) [a,b,c]).1 (some #[.int 8 1744])=pure (gH (["self","number","name"]:List Str) [a,b,c]++ [(("room" :Str),h_.int 8 1744)]):=by rfl'
theorem v7 (P:g9):(Py (Hd.KL P) 1323).defaults= .ref 1316:=by rfl'
theorem v5 (P:g9):((Hd.KL P).lookup 1316)=some (WZ [.bool false]):=by rfl'
theorem vZ (P:g9) (a b c:h_):(Xh (Py (Hd.KL P) 1323) [a,b,c]).1 (some #[.bool false])=pure (gH (["buffer","place","codes"]:List Str) [a,b,c]++ [(("before_markers" :Str),h_.bool false)]):=by rfl'
theorem qa {α:Type}{p:α->Prop}{a b c d:α}(ha:p a) (hb:p b) (hc:p c) (hd:p d) (x:α) (h:x∈ [a,b,c,d]):p x:=by
 rcases gy.mp h with e|h
 ·exact e▸ha
 rcases gy.mp h with e|h
 ·exact e▸hb
 rcases gy.mp h with e|h
 ·exact e▸hc
 ·exact fK.mp h▸hd
theorem UH {K:Frag}{fd:fL}{fn:Fn}{vs:List h_}{d:D}{x:Str}{v:h_}{T:Addr}{o:Obj}{items:Array h_}{n:Nat}(he:fn.ex= [(x,d)]) (hd:fd.defaults= .ref T) (ho:K.lookup T=some o) (hs:o.data= .seq items n) (h:(Xh fd vs).1 (some items)=pure (gH fn.ps vs++ [(x,v)])) (r:∀B,Y8 B d v):rq K fn fd vs:=
 ⟨[(x,v)],by rw[he];rfl,Jq hd ho hs h,fun e=>(nomatch he.symm.trans e),fun B=>by rw[he];exact⟨_,_,rfl,r B,rfl⟩⟩
theorem El (P:g9) {x:Nat×Fn}(hx:x∈SI) (he:x.2.ex≠ []):MG P x:=by
 have hm:x∈mV:=wc▸List.mem_filter.mpr ⟨hx,by cases q:x.2.ex with|nil=>exact absurd q he|cons=>rfl⟩
 refine qa (p:=MG P) (Ht (n:=5) fun a b c d e=> ?_) (Ht (n:=1) fun a=> ?_) (Ht (n:=3) fun a b c=> ?_) (Ht (n:=3) fun a b c=> ?_) x hm
 ·exact UH rfl (qg P) (qf P) rfl (qe P a b c d e) fun _=>⟨_,rfl⟩
 ·exact UH rfl (qd P) (qc P) rfl (qb P a) fun _=>rfl
 ·exact UH rfl (v_ P) (v9 P) rfl (v8 P a b c) fun _=>⟨_,rfl⟩
 ·exact UH rfl (v7 P) (v5 P) rfl (vZ P a b c) fun _=>rfl
theorem vY {G:Gm}{P:g9}(hK:G.K=Hd.KL P) {x:Nat×Fn}(hx:x∈SI):Q6 G x.1 x.2:=by
 have e1:=Zh (wG P) hx
 have e4:=Zh (wD P) hx
 have e5:=Zh wC hx
 have cd:∀c q,x.2.cd=some (c,q)->(Nz P x).code= .ref c/\(Nz P x).qualname++ ".<locals>." =q:=fun c q e=>by
  have e6:=Zh (wB P) hx
  rw[e] at e6
  have e6:=gj e6
  exact⟨congrArg (·.1) e6,congrArg (·.2) e6⟩
 have F:Q7 (Hd.KL P) x.2 (Nz P x):=⟨congrArg (·.1) (Zh (CA P) hx),Zh (Em P) hx,Zh (wF P) hx,congrArg (·.1) e4,congrArg (·.2.1) e4,congrArg (·.2.2) e4,by
  by_cases q:x.2.ex= []
  ·exact MF P hx q
  ·exact El P hx q,cd,congrArg (·.1) e5,congrArg (·.2.1) e5,congrArg (·.2.2) e5⟩
 cases q:(Hd.KL P).lookup x.1 with
 |none=>rw[q] at e1;cases e1
 |some o=>rw[q] at e1;exact⟨o,_,hK▸q,gj e1,hK▸F⟩
theorem vW {G:Gm}{P:g9}(hK:G.K=Hd.KL P):∀a f,Ux T0.fn a=some f->Q6 G a f/\gw G.K (.ref a)=true:=fun a f h=>
 ⟨vY hK (SH h),hK▸congrArg (·.2) (Zh (CA P) (SH h))⟩
def p_ (K:Frag) (x:Nat×Cl):Bool:=Ws K x.1 x.2.init && gw K (.ref x.1) && (x.2.meths.all fun m=>W3 K x.1 m.1 m.2) && x.2.attrs.all fun n=>Xj K x.1 n && YD K x.1 n
theorem vV (P:g9):(mY.all (p_ (Hd.KL P)))=true:=by rfl'
theorem vU {G:Gm}{P:g9}(hK:G.K=Hd.KL P):∀C c,Ux T0.cl C=some c->Ws G.K C c.init=true/\gw G.K (.ref C)=true/\(∀x f,lk c.meths x=some f->W3 G.K C x f=true)/\∀x,Td x c.attrs=true->Xj G.K C x=true/\YD G.K C x=true:=fun C c h=>by
 obtain ⟨hc,c4⟩:=g6.mp (gu.mp (vV P) _ (SH h))
 obtain ⟨hc,c3⟩:=g6.mp hc
 obtain ⟨c1,c2⟩:=g6.mp hc
 rw[hK]
 exact⟨c1,c2,fun x f q=>gu.mp c3 _ (Hw q),fun x q=>g6.mp (gu.mp c4 _ (Hv q))⟩
theorem jK (P:g9):nsIn (Hd.KL P) mainGlobals "__builtins__" =some (some (.ref 4)):=by rfl'
theorem jJ (P:g9):(Hd.KL P).lookup 4=some {cls:= .type "module",dict:=some builtinsNs,data:= .plain}:=by rfl'
theorem vS (P:g9):(T0.tb.all fun x=>codeHdIn (Hd.KL P) x.1 x.2 && !gZ 3 x.2 && !gZ 4 x.2)=true:=by rfl'
theorem bne {a b:Nat}(h:(!gZ a b)=true):a≠b:=fun q=>by subst q;rw[c_] at h;cases h
theorem vR {G:Gm}{P:g9}(hK:G.K=Hd.KL P):∀c Q,Ux T0.tb c=some Q->Ig G c Q:=fun c Q h=>by
 obtain ⟨x,x3⟩:=g6.mp (gu.mp (vS P) _ (SH h))
 obtain ⟨x1,x2⟩:=g6.mp x
 have hIn:(Hd.KL P).In G.hS:=hK▸G.Z.k
 obtain ⟨p,loose,mg,mb,T⟩:=G.Z.t
 exact⟨codeHd_of_K hIn x1,⟨mg,T.g,4,_,mg_of hIn T.g (jK P),by decide,by decide,bne x3,hIn _ _ (jJ P),rfl,rfl,rfl⟩,bne x2⟩
theorem p9 {G:Gm}{P:g9}(hK:G.K=Hd.KL P):ZY G T0:=⟨wH hK,vW hK,vU hK,vR hK⟩
abbrev dead:Obj->Obj:=fun o=>{o with data:= .freed}
def hSt (P:g9):Heap:=((Hd.HF P).update 820 dead).update 827 dead
theorem Om {h:Heap}{a:Addr}:(h.update a dead).get? a=none:=by
 obtain ⟨os,l⟩:=h
 show (match (os.modify a dead)[a]? with|some ⟨_,_,.freed,_⟩=>none|o=>o)=_
 rw[Array.getElem?_modify,if_pos rfl]
 cases os[a]?<;>rfl
theorem ME {P:g9}{a:Addr}{o:Obj}(e:(hSt P).get? a=some o):(Hd.HF P).get? a=some o/\a≠820/\a≠827:=by
 unfold hSt at e
 by_cases h1:a=827
 ·subst h1;rw[Om] at e;cases e
 rw[dR _ _ (ff h1)] at e
 by_cases h2:a=820
 ·subst h2;rw[Om] at e;cases e
 rw[dR _ _ (ff h2)] at e
 exact⟨e,h2,h1⟩
theorem Hs {P:g9}{a:Addr}{o:Obj}(e:(Hd.HF P).get? a=some o) (h1:a≠820) (h2:a≠827):(hSt P).get? a=some o:=by
 unfold hSt
 rw[dR _ _ (ff h2),dR _ _ (ff h1)];exact e
theorem vQ (P:g9):(Hd.ND P).get 820=some (gC #[]):=by rfl'
theorem vP (P:g9):(Hd.ND P).get 827=some (gC #[]):=by rfl'
section
variable {G:Gm}
def Post (loc:List (Str×AV)) (r:AV) (H':List AO):AV->St->Prop:=fun r' ZH=>ZH.loc=loc/\En H'.length r' r/\∃g,ZH.hp=H'++g
theorem con {n F:Nat}{f:AV}{as:List AV}{H H':List AO}{r:AV}(hT:ZY G T0) (hs:(gK H.length H'.length && Y9 H'.length H')=true)
  (c:∀loc,∃Yq l,(ev G T0 F).c n l f as ⟨loc,H,Yq⟩ (Post loc r H')):Z5 G n f as H r H':=by
 obtain ⟨h1,h2⟩:=g6.mp hs
 exact Z5.mk h1 h2 fun loc=>let ⟨os,l,h⟩:=c loc;⟨os,(ZA hT F).c h⟩
theorem XG {loc:List (Str×AV)}{r:AV}{H' g:List AO}{os:List Gh}(hr:r.sc H'.length=true):Post loc r H' r ⟨loc,H'++g,os⟩:=⟨rfl,.inl ⟨rfl,hr⟩,g,rfl⟩
theorem Z1 {loc:List (Str×AV)}{r:AV}{H':List AO}{os:List Gh}(hr:r.sc H'.length=true):Post loc r H' r ⟨loc,H',os⟩:=⟨rfl,.inl ⟨rfl,hr⟩,[],(gE _).symm⟩
theorem YY {n F:Nat}{f:AV}{as:List AV}{H H':List AO}{r:AV}(hT:ZY G T0) (hs:(gK H.length H'.length && Y9 H'.length H')=true) (os:List Gh) (P:List (Str×AV)->Prop)
  (e:∀loc,P loc=(ev G T0 F).c n 0 f as ⟨loc,H,os⟩ (Post loc r H')) (p:∀loc,P loc):Z5 G n f as H r H':=
 con (F:=F) hT hs fun loc=>⟨os,0,@cast _ _ (e loc) (p loc)⟩
def Ek (c:Nat) (room gs ge:Int):AO:= .inst 947 [("room",.d (.int room)),("cells",.loc c),("gap_start",.d (.int gs)),("gap_end",.d (.int ge))]
def Tq:List Nat->Bool
 | []=>true
 |x::r=>(r.all fun y=> !gZ x y) && Tq r
def Uc:List Nat->List AO->List AO
 | [],H=>H
 |i::e,H=>Uc e (H.set i .gone)
theorem YB.of {e:List Nat}:∀{os H:List AO},Tq e=true->(e.map fun i=>H[i]?)=os.map some->YB e os H (Uc e H):=by
 induction e with
 |nil=>intro os H _ h;cases os with
  |nil=>exact .nil
  |cons=>cases h
 |cons i e ih=>
  intro os H d h
  cases os with
  |nil=>cases h
  |cons o os=>
   obtain ⟨d1,d2⟩:=g6.mp d
   obtain ⟨h1,h2⟩:=List.cons.inj h
   refine .cons h1 (ih d2 (Eq.trans (List.map_congr_left fun j hj=> ?_) h2))
   have:i≠j:=fun q=>by
    have:=gu.mp d1 j hj
    rw[q,c_] at this;cases this
   rw[aC this]
theorem Z5.at {n:Nat}{f:AV}{as:List AV}{H0 X_ Hb:List AO}{r0:AV}(c:Z5 G n f as H0 r0 X_) (e:List Nat) {f':AV}{as':List AV}{r':AV}{VM:List AO}
  (h1:(Tq e && gK e.length X_.length)=true) (h2:(e.map fun i=>Hb[i]?)=(YI (Mine.YN e Hb.length) H0).map some)
  (h3:(f.Yb (Mine.YN e Hb.length),Yk (Mine.YN e Hb.length) as,r0.Yb (Mine.YN e Hb.length),XA e ((YI (Mine.YN e Hb.length) X_).take e.length) (Uc e Hb)++(YI (Mine.YN e Hb.length) X_).drop e.length)=(f',as',r',VM)):Z5 G n f' as' Hb r' VM:=by
 obtain ⟨d1,d2⟩:=g6.mp h1
 simp only[bL] at h3
 exact c.use e (YB.of d1 h2) d2 h3.1 h3.2.1 h3.2.2.1 h3.2.2.2
theorem Z5.anew {n:Nat}{f:AV}{as:List AV}{H H1 H':List AO}{r1 r:AV}(c:Z5 G n f as H r1 H1) (e:List Nat) (h1:Tq e=true) (h2:(e.map fun i=>H1[i]?)=(YI (Mine.YN e H1.length) H').map some)
  (h3:(r.Yb (Mine.YN e H1.length),e.take H.length)=(r1,eY H.length)):Z5 G n f as H r H':=by
 simp only[bL] at h3
 exact c.sel e (YB.of h1 h2) h3.2 h3.1.symm
def Xp (c:Int):Int:=if 65<=c/\c<=90 then c+32 else c
def isLt (c:Int):Prop:=c=97\/c=65\/c=98\/c=66\/c=10\/c= -1
theorem Hr {n:Nat}{c:Int}(hT:ZY G T0) (h:isLt c):Z5 G (n+2) (.Z8 (.ref 81)) [.d (.int c)] [] (.d (.int (Xp c))) []:=by
 rcases h with rfl|rfl|rfl|rfl|rfl|rfl
 all_goals
  refine con (F:=24) hT (by rfl') fun loc=>⟨[],0,?_⟩
 ·refine cast (α:=Post loc (.d (.int 97)) [] (.d (.int 97)) ⟨loc,[],[]⟩) ?_ (Z1 rfl);rfl'
 ·refine cast (α:=Post loc (.d (.int 97)) [] (.d (.int 97)) ⟨loc,[],[]⟩) ?_ (Z1 rfl);rfl'
 ·refine cast (α:=Post loc (.d (.int 98)) [] (.d (.int 98)) ⟨loc,[],[]⟩) ?_ (Z1 rfl);rfl'
 ·refine cast (α:=Post loc (.d (.int 98)) [] (.d (.int 98)) ⟨loc,[],[]⟩) ?_ (Z1 rfl);rfl'
 ·refine cast (α:=Post loc (.d (.int 10)) [] (.d (.int 10)) ⟨loc,[],[]⟩) ?_ (Z1 rfl);rfl'
 ·refine cast (α:=Post loc (.d (.int (-1))) [] (.d (.int (-1))) ⟨loc,[],[]⟩) ?_ (Z1 rfl);rfl'
def Ej (t m l:Nat) (pt bz zv tk:Int):AO:= .inst 1158 [("number",.d (.int 1)),("name",.d (.str "a")),("text",.loc t),("markers",.loc m),("point",.d (.int pt)),("begv",.d (.int bz)),("zv",.d (.int zv)),("mark",.d .none),("is_live",.d (.bool true)),("is_read_only",.d (.bool false)),("ticks",.d (.int tk)),("codes_ticks",.d (.int tk)),("saved_ticks",.d (.int 1)),("listeners",.loc l),("undo",.d .none),("props",.d .none),("overlays",.d .none),("locals",.d .none),("syntax",.d .none),("file",.d .none)]
structure BB where
 (bz zv tk gs ge:Int)
 cs:List Int
def bw (pt:Int) (q:BB):List AO:= [Ej 1 3 5 pt q.bz q.zv q.tk,Ek 2 8 q.gs q.ge,.Z_ q.cs,.inst 1052 [("rows",.loc 4)],.dict [],.Z_ []]
def ZV (us:List Int) (bz zv p:Int):Int:=if p<bz\/zv<=p then -1 else us.getD (p - 1).toNat 0
structure Holds (us:List Int) (bz zv gs:Int) (cs:List Int):Prop where
 b:1<=bz
 z:zv<=us.length+1
 g:gs=us.length
 c:∃t,cs=us++t
 s:cs.length<=100
theorem YX {n:Nat}(h:n<=100):small n=true:=fT (by omega)
theorem Px {i:Int}{k:Nat}(h0:0<=i) (h1:i<k) (hk:k<=100):Wq i k=true:=by
 unfold Wq C0
 rw[decide_eq_true h1]
 dsimp only
 rw[decide_eq_true (by omega: -(k:Int)<=i)]
 exact YX hk
theorem Pw {i:Int}{k:Nat}(h0:0<=i):UW i k=i.toNat:=by
 unfold UW;rw[decide_eq_false (by omega)]
theorem Ol {n:Nat}{us:List Int}{pt p:Int}{q:BB}(hT:ZY G T0) (hh:Holds us q.bz q.zv q.gs q.cs):
  Z5 G (n+2) (.Z8 (.ref 1113)) [.loc 0,.d (.int p)] (bw pt q) (.d (.int (ZV us q.bz q.zv p))) (bw pt q):=by
 by_cases h1:p<q.bz
 ·refine con (F:=20) hT (by rfl') fun loc=>⟨[.t 879],0,?_⟩
  have e:ZV us q.bz q.zv p= -1:=by unfold ZV;rw[if_pos (.inl h1)]
  rw[e]
  refine cast (α:=decide (p<q.bz)=true/\Post loc (.d (.int (-1))) (bw pt q) (.d (.int (-1))) ⟨loc,bw pt q,[]⟩) ?_ ⟨decide_eq_true h1,Z1 rfl⟩
  rfl'
 ·by_cases h2:q.zv<=p
  ·refine con (F:=20) hT (by rfl') fun loc=>⟨[.f 879,.t 879],0,?_⟩
   have e:ZV us q.bz q.zv p= -1:=by unfold ZV;rw[if_pos (.inr h2)]
   rw[e]
   refine cast (α:=decide (p<q.bz)=false/\decide (q.zv<=p)=true/\Post loc (.d (.int (-1))) (bw pt q) (.d (.int (-1))) ⟨loc,bw pt q,[]⟩) ?_ ⟨decide_eq_false h1,decide_eq_true h2,Z1 rfl⟩
   rfl'
  ·obtain ⟨hb,hz,hg,⟨t,hc⟩,hs⟩:=hh
   refine con (F:=20) hT (by rfl') fun loc=>⟨[.f 879,.f 879,.t 742,.k 743],0,?_⟩
   have hlen:us.length<=q.cs.length:=by rw[hc,gA];exact cR _ _
   have hin:=Dc h1 h2 hb hz
   have e:ZV us q.bz q.zv p=q.cs.getD (UW (p - 1) q.cs.length) 0:=by
    unfold ZV
    rw[if_neg (fun q=>q.elim h1 h2),Pw hin.1,hc]
    simp only[fG]
    rw[c9 hin.2]
   rw[e]
   refine cast (α:=decide (p<q.bz)=false/\decide (q.zv<=p)=false/\decide (p - 1<q.gs)=true/\Wq (p - 1) q.cs.length=true/\Post loc (.d (.int (q.cs.getD (UW (p - 1) q.cs.length) 0))) (bw pt q) (.d (.int (q.cs.getD (UW (p - 1) q.cs.length) 0))) ⟨loc,bw pt q,[]⟩) ?_
    ⟨decide_eq_false h1,decide_eq_false h2,decide_eq_true (by omega),Px (by omega) (by omega) hs,Z1 rfl⟩
   rfl'
def VL (x:Stmt):Expr:=XO 9 x (.Constant .none 0 default) fun h=> @aV (fun _=>Expr) x h fun t _ _ _ _=>t
def LB (x:Stmt):Expr:=XO 9 x (.Constant .none 0 default) fun h=> @aV (fun _=>Expr) x h fun _ i _ _ _=>i
def Wt (x:Stmt):List Stmt:=XO 9 x ([]) fun h=> @aV (fun _=>List Stmt) x h fun _ _ b _ _=>b
def FY (x:Stmt):Pos:=XO 9 x (default) fun h=> @aV (fun _=>Pos) x h fun _ _ _ _ p=>p
def Pu (x:Expr):List Expr:=Ye 25 x ([]) fun h=> @cV (fun _=>List Expr) x h fun l _ _=>l
def mU (x:Expr):Nat:=Ye 25 x (0) fun h=> @cV (fun _=>Nat) x h fun _ k _=>k
def vO (x:Expr):Pos:=Ye 25 x (default) fun h=> @cV (fun _=>Pos) x h fun _ _ p=>p
def VZ (f:Fn) (i:Nat):Stmt:=(f.body[i]?).getD (.Pass default)
def fm (f:Fn):Fm:=⟨f.sc,[],f.cd⟩
theorem Ei {n F:Nat}{Φ:Fm}{s:Stmt}{loc YQ:List (Str×AV)}{H H':List AO}{fl:Zk}(hT:ZY G T0) (hS:s= .For (VL s) (LB s) (Wt s) [] (FY s)) (hi:isSet (LB s)=false)
  (x:(ev G T0 F).e n Φ (LB s) ⟨loc,H,[]⟩ fun a σ=>VO 0 a σ fun k σ=>Kw G n Φ k (VL s) (Wt s) σ (Zp YA H.length fl YQ H')):Wb G n Φ s loc H fl YQ H':=by
 rw[hS]
 refine Wb.mk (Yq:= []) ?_
 refine LU hi ?_
 refine Zd.to ((ZA hT F).e x) ?_
 intro a σ h
 exact XC h
theorem Zz {k0:Nat}{fl:Zk}{loc YQ:List (Str×AV)}{H' g:List AO}{os:List Gh}(h1:(gK k0 H'.length && Y9 H'.length H')=true) (h2:YA H'.length fl fl) (h3:Hy H'.length loc YQ):Zp YA k0 fl YQ H' fl ⟨loc,H'++g,os⟩:=by
 obtain ⟨a,b⟩:=g6.mp h1
 exact⟨gp a,b,h2,h3,g,rfl⟩
def AN (k:Nat) (loc:List (Str×AV)):List (Str×AV)->Prop
 | []=>True
 |(x,a)::r=>(lk loc x=some a/\a.sc k=true)/\AN k loc r
theorem Pr {k:Nat}{loc:List (Str×AV)}:∀{l:List (Str×AV)},AN k loc l->Hy k loc l
 | [],_=>trivial
 |(x,a)::r,⟨⟨h1,h2⟩,h3⟩=>⟨⟨a,h1,.inl ⟨rfl,h2⟩⟩,Pr h3⟩
def sZ (k:Nat) (loc:List (Str×AV)):List (Str×AV)->List (Option AV×Bool)
 | []=> []
 |(x,a)::r=>(lk loc x,a.sc k)::sZ k loc r
def sY:List (Str×AV)->List (Option AV×Bool)
 | []=> []
 |(x,a)::r=>(some a,true)::sY r
theorem mT {k:Nat}{loc:List (Str×AV)}:∀{l:List (Str×AV)},sZ k loc l=sY l->AN k loc l
 | [],_=>trivial
 |(x,a)::r,h=>by
  unfold sZ sY at h
  obtain ⟨h1,h2⟩:=List.cons.inj h
  obtain ⟨h3,h4⟩:=Prod.mk.inj h1
  exact⟨⟨h3,h4⟩,mT h2⟩
theorem SG {k:Nat}{loc l:List (Str×AV)}(h:sZ k loc l=sY l):Hy k loc l:=Pr (mT h)
def Zo (f:Int->Int) (p:Int):List Int->Bool
 | []=>true
 |w::r=>(match decide (Xp (f p)=Xp w) with|true=>Zo f (p+1) r|false=>false)
theorem RK {f:Int->Int}{p:Int}:∀{ws:List Int}{j:Nat},(∀i,i<j->Xp (f (p+i))=Xp (ws.getD i 0))->j<=ws.length->Zo f p ws=Zo f (p+j) (ws.drop j)
 |ws,0,_,_=>by simp
 | [],j+1,_,h=>by simp at h
 |w::ws,j+1,h,hl=>by
  have h0:=h 0 (Nat.succ_pos _)
  simp at h0
  have e0:Zo f p (w::ws)=Zo f (p+1) ws:=by
   show (match decide (Xp (f p)=Xp w) with|true=>Zo f (p+1) ws|false=>false)=_
   rw[decide_eq_true h0]
  rw[e0,RK (j:=j) (fun i hi=>by
   have:=h (i+1) (by omega)
   simp only[List.getD_cons_succ] at this
   rw[<-this];congr 2;push_cast;omega) (by simpa using hl),List.drop_succ_cons,show p+1+(j:Int)=p+((j+1:Nat):Int) by push_cast;omega]
abbrev RJ:Fn:=Zc 61 none ["view","codes","place","folds"] []
abbrev Xz:Stmt:=VZ RJ 0
theorem Hq:Xz= .For (VL Xz) (LB Xz) (Wt Xz) [] (FY Xz):=by rfl'
theorem Hp:VL Xz= .Tuple (Pu (VL Xz)) (mU (VL Xz)) (vO (VL Xz)):=by rfl'
abbrev X9 (p:Int):List (Str×AV):= [("view",.loc 0),("codes",.loc 6),("place",.d (.int p)),("folds",.d (.bool true))]
theorem J_ {n:Nat}{us ws:List Int}{pt p:Int}{q:BB}{j:Nat}{w o:Int}(hT:ZY G T0) (hh:Holds us q.bz q.zv q.gs q.cs) (ho:isLt (ZV us q.bz q.zv (p+j))) (hw:isLt w) (e0:ZV us q.bz q.zv (p+j)=o) {K:Zk->St->Prop}
  (k1:Xp o=Xp w->K .next ⟨X9 p,bw pt q++ [.Z_ ws,.en 6 (j+1)],[]⟩) (k2:Xp o≠Xp w->K (.ret (.d (.bool false))) ⟨X9 p,bw pt q++ [.Z_ ws,.en 6 (j+1)],[]⟩):
  X0 G (n+3) (fm RJ) (Wt Xz) ⟨Mine.put (Mine.put (X9 p) "at" (.d (.int j))) "code" (.d (.int w)),bw pt q++ [.Z_ ws,.en 6 (j+1)],[]⟩ K Zn:=by
 rw[e0] at ho
 let H:=bw pt q++ [.Z_ ws,.en 6 (j+1)]
 let L3:List (Str×AV):=Mine.put (Mine.put (Mine.put (X9 p) "at" (.d (.int j))) "code" (.d (.int w))) "other" (.d (.int o))
 have c1:Z5 G (n+3) (.Z8 (.ref 1113)) [.loc 0,.d (.int (p+j))] H (.d (.int o)) H:=by
  have c:=Ol (n:=n+1) (pt:=pt) (q:=q) (p:=p+j) hT hh
  rw[e0] at c
  exact c.at [0,1,2,3,4,5] (by rfl') (by rfl') (by rfl')
 have cf:∀x:Int,isLt x->Z5 G (n+3) (.Z8 (.ref 81)) [.d (.int x)] H (.d (.int (Xp x))) H:=fun x hx=>
  (Hr (n:=n+1) hT hx).at [] (by rfl') (by rfl') (by rfl')
 have fin:∀{fl:Zk}{os:List Gh},YA H.length fl fl->Zp YA H.length fl (X9 p) H fl ⟨L3,H,os⟩:=fun{fl os} hw=>
  (gE H)▸Zz (g:= []) (by rfl') hw (SG (by rfl'))
 by_cases h1:o=w
 ·have hk:=k1 (by rw[h1])
  refine J.trim (Yq:= [.con 571 (.d (.int o)) H,.f 572]) YA.rf ((ZA hT 30).ss ?_) fun a σ q=>⟨_,_,_,_,q,hk⟩
  refine cast (α:=Z5 G (n+3) (.Z8 (.ref 1113)) [.loc 0,.d (.int (p+j))] H (.d (.int o)) H/\(!decide (o=w))=false/\Zp YA H.length .next (X9 p) H .next ⟨L3,H,[]⟩) ?_ ⟨c1,by rw[decide_eq_true h1];rfl,fin trivial⟩
  rfl'
 ·by_cases h2:Xp o=Xp w
  ·have hk:=k1 h2
   refine J.trim (Yq:= [.con 571 (.d (.int o)) H,.t 572,.con 572 (.d (.int (Xp o))) H,.con 572 (.d (.int (Xp w))) H,.t 572]) YA.rf ((ZA hT 30).ss ?_) fun a σ q=>⟨_,_,_,_,q,hk⟩
   refine cast (α:=Z5 G (n+3) (.Z8 (.ref 1113)) [.loc 0,.d (.int (p+j))] H (.d (.int o)) H/\(!decide (o=w))=true/\Z5 G (n+3) (.Z8 (.ref 81)) [.d (.int o)] H (.d (.int (Xp o))) H/\Z5 G (n+3) (.Z8 (.ref 81)) [.d (.int w)] H (.d (.int (Xp w))) H/\
    decide (Xp o=Xp w)=true/\Zp YA H.length .next (X9 p) H .next ⟨L3,H,[]⟩) ?_ ⟨c1,by rw[decide_eq_false h1];rfl,cf o ho,cf w hw,decide_eq_true h2,fin trivial⟩
   rfl'
  ·have hk:=k2 h2
   refine J.trim (Yq:= [.con 571 (.d (.int o)) H,.t 572,.con 572 (.d (.int (Xp o))) H,.con 572 (.d (.int (Xp w))) H,.f 572]) YA.rf ((ZA hT 30).ss ?_) fun a σ q=>⟨_,_,_,_,q,hk⟩
   refine cast (α:=Z5 G (n+3) (.Z8 (.ref 1113)) [.loc 0,.d (.int (p+j))] H (.d (.int o)) H/\(!decide (o=w))=true/\Z5 G (n+3) (.Z8 (.ref 81)) [.d (.int o)] H (.d (.int (Xp o))) H/\Z5 G (n+3) (.Z8 (.ref 81)) [.d (.int w)] H (.d (.int (Xp w))) H/\
    decide (Xp o=Xp w)=false/\Zp YA H.length (.ret (.d (.bool false))) (X9 p) H (.ret (.d (.bool false))) ⟨L3,H,[]⟩) ?_ ⟨c1,by rw[decide_eq_false h1];rfl,cf o ho,cf w hw,decide_eq_false h2,fin (.inl ⟨rfl,rfl⟩)⟩
   rfl'
theorem Qt {us:List Int}{bz zv p:Int}(hu:∀u∈us,isLt u) (hb:1<=bz) (hz:zv<=us.length+1):isLt (ZV us bz zv p):=by
 unfold ZV
 by_cases h:p<bz\/zv<=p
 ·rw[if_pos h];exact .inr (.inr (.inr (.inr (.inr rfl))))
 ·rw[if_neg h]
  refine hu _ ?_
  rw[fG,f9 (Dc (fun q=>h (.inl q)) (fun q=>h (.inr q)) hb hz).2]
  exact aU _
theorem getD_mem {ws:List Int}{j:Nat}(h:j<ws.length):ws.getD j 0∈ws:=by
 rw[fG,f9 h]
 exact aU _
abbrev Ym (pt:Int) (q:BB) (ws:List Int):List AO:=bw pt q++ [.Z_ ws]
abbrev Pq (b:Bool):Zk:=match b with|true=> .next|false=> .ret (.d (.bool false))
theorem J' {n:Nat}{us ws:List Int}{pt p:Int}{q:BB}(hT:ZY G T0) (hh:Holds us q.bz q.zv q.gs q.cs) (hu:∀u∈us,isLt u) (hw:∀w∈ws,isLt w):
  Wb G (n+3) (fm RJ) Xz (X9 p) (Ym pt q ws) (Pq (Zo (ZV us q.bz q.zv) p ws)) (X9 p) (Ym pt q ws):=by
 generalize hr:Zo (ZV us q.bz q.zv) p ws=b
 let K3:Zk->St->Prop:=Zp YA 7 (Pq b) (X9 p) (Ym pt q ws)
 let S:Nat->St:=fun j=>⟨X9 p,bw pt q++ [.Z_ ws,.en 6 j],[]⟩
 refine Ei (F:=16) hT Hq (by rfl') ?_
 refine @cast (Kw G (n+3) (fm RJ) 7 (VL Xz) (Wt Xz) (S 0) K3) _ (by rfl') ?_
 refine Wo (fun c σ=>∃j,c+j=ws.length/\(∀i,i<j->Xp (ZV us q.bz q.zv (p+i))=Xp (ws.getD i 0))/\σ=S j) ?_ ws.length ⟨0,rfl,fun i h=>absurd h (Nat.not_lt_zero _),rfl⟩
 rintro c _ ⟨j,hc,hpre,rfl⟩
 rw[Hp]
 have LA:=RK (f:=ZV us q.bz q.zv) (p:=p) hpre (by omega)
 rw[hr] at LA
 have fin:∀{fl:Zk},fl=Pq b->YA 7 fl fl->K3 fl ⟨X9 p,bw pt q++ [.Z_ ws,.gone],[]⟩:=fun{fl} e h=>by
  subst e
  exact Zz (g:= [.gone]) (by rfl') h (SG (by rfl'))
 have p8:∀{fl:Zk}{i:Nat},fl=Pq b->YA 7 fl fl->K3 fl (S i):=fun{fl i} e h=>by
  subst e
  exact Zz (g:= [.en 6 i]) (by rfl') h (SG (by rfl'))
 refine xy (ts:=Pu (VL Xz)) (σ:=S j) (k:=7) (i:=6) (j:=j) (o:= .Z_ ws) (l:=ws.map fun i=> .d (.int i)) rfl rfl rfl (by rfl') (by rfl') (by show j<=ws.length;omega) ⟨fun h=> ?_,fun h=> ?_⟩
 ·have h:ws.length<=j:=h
  rw[av h] at LA
  have hb:b=true:=LA
  exact fin (by rw[hb]) trivial
 ·have h:j<ws.length:=h
  refine(ZA hT 16).ae ?_
  refine @cast (X0 G (n+3) (fm RJ) (Wt Xz) ⟨Mine.put (Mine.put (X9 p) "at" (.d (.int j))) "code" (.d (.int (ws.getD j 0))),bw pt q++ [.Z_ ws,.en 6 (j+1)],[]⟩ (Yl K3 fun Zq=>∃c',c'<c/\∃j,c'+j=ws.length/\(∀i,i<j->Xp (ZV us q.bz q.zv (p+i))=Xp (ws.getD i 0))/\Zq=S j) Zn) _ (by rfl') ?_
  refine J_ hT hh (Qt hu hh.b hh.z) (hw _ (getD_mem h)) rfl (fun e=> ?_) (fun e=> ?_)
  ·refine⟨c - 1,by omega,j+1,by omega,fun i hi=> ?_,rfl⟩
   by_cases q:i<j
   ·exact hpre i q
   ·obtain rfl:i=j:=by omega
    exact e
  ·have hb:b=false:=by
    rw[LA]
    have:ws.drop j=ws.getD j 0::ws.drop (j+1):=by
     rw[bK h,fG,f9 h];rfl
    rw[this]
    show (match decide (Xp (ZV us q.bz q.zv (p+j))=Xp (ws.getD j 0)) with|true=>Zo (ZV us q.bz q.zv) (p+j+1) (ws.drop (j+1))|false=>false)=false
    rw[decide_eq_false e]
   exact p8 (by rw[hb]) (.inl ⟨rfl,rfl⟩)
theorem Oj {n:Nat}{us ws:List Int}{pt p:Int}{q:BB}(hT:ZY G T0) (hh:Holds us q.bz q.zv q.gs q.cs) (hu:∀u∈us,isLt u) (hw:∀w∈ws,isLt w):
  Z5 G (n+4) (.Z8 (.ref 620)) [.loc 0,.loc 6,.d (.int p),.d (.bool true)] (Ym pt q ws) (.d (.bool (Zo (ZV us q.bz q.zv) p ws))) (Ym pt q ws):=by
 have c:=J' (n:=n) (pt:=pt) (q:=q) (p:=p) hT hh hu hw
 revert c
 generalize Zo (ZV us q.bz q.zv) p ws=b
 intro c
 cases b
 ·refine con (F:=16) hT (by rfl') fun loc=>⟨[.cut 570 (.ret (.d (.bool false))) (X9 p) (Ym pt q ws)],0,?_⟩
  refine cast (α:=Wb G (n+3) (fm RJ) Xz (X9 p) (Ym pt q ws) (.ret (.d (.bool false))) (X9 p) (Ym pt q ws)/\Post loc (.d (.bool false)) (Ym pt q ws) (.d (.bool false)) ⟨loc,Ym pt q ws,[]⟩) ?_ ⟨c,Z1 rfl⟩
  rfl'
 ·refine con (F:=16) hT (by rfl') fun loc=>⟨[.cut 570 .next (X9 p) (Ym pt q ws)],0,?_⟩
  refine cast (α:=Wb G (n+3) (fm RJ) Xz (X9 p) (Ym pt q ws) .next (X9 p) (Ym pt q ws)/\Post loc (.d (.bool true)) (Ym pt q ws) (.d (.bool true)) ⟨loc,Ym pt q ws,[]⟩) ?_ ⟨c,Z1 rfl⟩
  rfl'
theorem WI {n F:Nat}{Φ:Fm}{s:Stmt}{loc YQ:List (Str×AV)}{H H':List AO}{fl:Zk}{os:List Gh}(hT:ZY G T0) (hS:s= .For (VL s) (LB s) (Wt s) [] (FY s)) (hi:isSet (LB s)=false)
  (x:(ev G T0 F).e n Φ (LB s) ⟨loc,H,os⟩ fun a σ=>VO 0 a σ fun k σ=>Kw G n Φ k (VL s) (Wt s) σ (Zp YA H.length fl YQ H')):Wb G n Φ s loc H fl YQ H':=by
 rw[hS]
 refine Wb.mk (Yq:=os) ?_
 refine LU hi ?_
 refine Zd.to ((ZA hT F).e x) ?_
 intro a σ h
 exact XC h
theorem Qs {n:Nat}{Φ:Fm}{k:Nat}{t:Expr}{σ:St}{b:Bool}{els:List AV}{Kd Kn:St->Prop}(ht:isName t=true) (hk:σ.hp[k]?=some (.it b els))
  (g:match els with| []=>Kd {σ with hp:=σ.hp.set k .gone}|e::r=>Rg G n Φ t e {σ with hp:=σ.hp.set k (.it b r)} Kn Zn):xG G n Φ k t σ Kd Kn:=by
 refine JL.na ?_
 refine RX (Iw hk (by rw[ht]) ?_)
 cases els with
 |nil=>exact g
 |cons e r=>exact g
theorem Oi {K:Nat}:∀(k:Nat) (a:Int),((ZI a k).all fun y=>y.sc K)=true
 |0,_=>rfl
 |k+1,a=>Oi k (a+1)
theorem VK {K:Nat}{A B:List AO}{x:Int}{c:Nat}(h:(Y9 K A && Y9 K B)=true):Y9 K (A++ .it false (ZI x c)::B)=true:=by
 obtain ⟨h1,h2⟩:=g6.mp h
 unfold Y9 at*
 rw[bJ,fP,h1,h2]
 have:(AO.it false (ZI x c)).sc K=true:=Oi c x
 rw[this];rfl
theorem ZL {k0:Nat}{H':List AO}(h1:gK k0 H'.length=true) (h2:Y9 H'.length H'=true):(gK k0 H'.length && Y9 H'.length H')=true:=by rw[h1,h2];rfl
def Zf (P:Int->Bool) (a:Int):Nat->Option Int|0=>none|k+1=>match P a with|true=>some a|false=>Zf P (a+1) k
abbrev MD:Fn:=Zc 62 none ["view","place","codes","bound","folds"] []
abbrev S_:Stmt:=VZ MD 0
theorem Eh:S_= .For (VL S_) (LB S_) (Wt S_) [] (FY S_):=by rfl'
abbrev W9 (p bd:Int):List (Str×AV):= [("view",.loc 0),("place",.d (.int p)),("codes",.loc 6),("bound",.d (.int bd)),("folds",.d (.bool true))]
abbrev Z9 (s m:Int):AO:= .list [.d (.tup [.int s,.int (s+m)])]
abbrev Cz (o:Option Int):Zk:=match o with|none=> .next|some _=> .ret (.loc 8)
abbrev Oh (H:List AO) (m e:Int) (o:Option Int):List AO:=match o with|none=>H|some s=>H++ [.it false (ZI (s+1) (e - (s+1)).toNat),Z9 s m]
theorem Ho {n:Nat}{us ws:List Int}{pt p bd:Int}{q:BB}(hT:ZY G T0) (hh:Holds us q.bz q.zv q.gs q.cs) (hu:∀u∈us,isLt u) (hw:∀w∈ws,isLt w) (hl:ws.length<=100) (hp:0<=p/\p<=1000) (hz: -1000<=min bd q.zv/\min bd q.zv<=1000):
  Wb G (n+5) (fm MD) S_ (W9 p bd) (Ym pt q ws) (Cz (Zf (fun s=>Zo (ZV us q.bz q.zv) s ws) p (min bd q.zv - ws.length+1 - p).toNat)) (W9 p bd)
   (Oh (Ym pt q ws) ws.length (min bd q.zv - ws.length+1) (Zf (fun s=>Zo (ZV us q.bz q.zv) s ws) p (min bd q.zv - ws.length+1 - p).toNat)):=by
 generalize he:min bd q.zv - (ws.length:Int)+1=e
 generalize hr:Zf (fun s=>Zo (ZV us q.bz q.zv) s ws) p (e - p).toNat=b
 let H7:=Ym pt q ws
 let K3:Zk->St->Prop:=Zp YA 7 (Cz b) (W9 p bd) (Oh H7 ws.length e b)
 let S:Int->Nat->St:=fun x c=>⟨W9 p bd,H7++ [.it false (ZI x c)],[]⟩
 refine WI (F:=24) (os:= [.k 576,.k 0]) hT Eh (by rfl') ?_
 have hsm:∀i:Int, -2000<=i/\i<=2000->Y6 i=true:=fun i hi=>fT (VY hi (by decide))
 refine @cast (small ws.length=true/\(match Y6 p with|true=>Y6 (min bd q.zv - (ws.length:Int)+1)|false=>false)=true/\Kw G (n+5) (fm MD) 7 (VL S_) (Wt S_) (S p (min bd q.zv - (ws.length:Int)+1 - p).toNat) K3) _ (by rfl') ⟨YX hl,?_,?_⟩
 ·rw[hsm p (by omega)];exact hsm _ (by omega)
 rw[he]
 refine Wo (fun c σ=>∃x,c=(e - x).toNat/\Zf (fun s=>Zo (ZV us q.bz q.zv) s ws) x c=b/\σ=S x c) ?_ (e - p).toNat ⟨p,rfl,hr,rfl⟩
 rintro c _ ⟨x,hc,hf,rfl⟩
 refine Qs (σ:=S x c) (k:=7) (by rfl') rfl ?_
 cases c with
 |zero=>
  have hb:b=none:=hf.symm
  subst hb
  exact Zz (g:= [.gone]) (by rfl') trivial (SG (by rfl'))
 |succ c=>
  let H8:=H7++ [.it false (ZI (x+1) c)]
  let L2:List (Str×AV):=Mine.put (W9 p bd) "start" (.d (.int x))
  show Rg G (n+5) (fm MD) (VL S_) (.d (.int x)) ⟨W9 p bd,H8,[]⟩ _ Zn
  refine(ZA hT 16).a ?_
  refine @cast (X0 G (n+5) (fm MD) (Wt S_) ⟨L2,H8,[]⟩ (Yl K3 fun Zq=>∃c',c'<c+1/\∃x,c'=(e - x).toNat/\Zf (fun s=>Zo (ZV us q.bz q.zv) s ws) x c'=b/\Zq=S x c') Zn) _ (by rfl') ?_
  have ch:Z5 G (n+5) (.Z8 (.ref 620)) [.loc 0,.loc 6,.d (.int x),.d (.bool true)] H8 (.d (.bool (Zo (ZV us q.bz q.zv) x ws))) H8:=
   (Oj (n:=n+1) (pt:=pt) (q:=q) (p:=x) hT hh hu hw).at [0,1,2,3,4,5,6] (by rfl') (by rfl') (by rfl')
  have hf':(match Zo (ZV us q.bz q.zv) x ws with|true=>some x|false=>Zf (fun s=>Zo (ZV us q.bz q.zv) s ws) (x+1) c)=b:=hf
  revert ch hf'
  generalize Zo (ZV us q.bz q.zv) x ws=q
  intro ch hf'
  have ll:Hy 8 L2 (W9 p bd):=SG (by rfl')
  cases q with
  |false=>
   have hf':Zf (fun s=>Zo (ZV us q.bz q.zv) s ws) (x+1) c=b:=hf'
   refine J.trim (Yq:= [.con 577 (.d (.bool false)) H8]) YA.rf ((ZA hT 24).ss (K:=Zp YA 8 .next (W9 p bd) H8) ?_) fun a σ q=>⟨.next,W9 p bd,H8,[],q,⟨c,fU _,x+1,(Mk hc).symm,hf',rfl⟩⟩
   refine @cast (Z5 G (n+5) (.Z8 (.ref 620)) [.loc 0,.loc 6,.d (.int x),.d (.bool true)] H8 (.d (.bool false)) H8/\Zp YA 8 .next (W9 p bd) H8 .next ⟨L2,H8++ [],[]⟩) _ (by rfl') ⟨ch,?_⟩
   exact Zz (ZL (by rfl') (VK (by rfl'))) trivial ll
  |true=>
   have hb:b=some x:=hf'.symm
   subst hb
   let H9:=H7++ [.it false (ZI (x+1) c),Z9 x ws.length]
   have hE:Oh H7 ws.length e (some x)=H9:=by
    show H7++ [.it false (ZI (x+1) (e - (x+1)).toNat),Z9 x ws.length]=_
    rw[Mk hc]
   have s9:Y9 9 H9=true:=VK (by rfl')
   have hk:Yl K3 (fun Zq=>∃c',c'<c+1/\∃x_1,c'=(e - x_1).toNat/\Zf (fun s=>Zo (ZV us q.bz q.zv) s ws) x_1 c'=some x/\Zq=S x_1 c') (.ret (.loc 8)) ⟨W9 p bd,H9,[]⟩:=by
    show Zp YA 7 (.ret (.loc 8)) (W9 p bd) (Oh H7 ws.length e (some x)) (.ret (.loc 8)) ⟨W9 p bd,H9,[]⟩
    rw[hE]
    exact(gE H9)▸Zz (g:= []) (ZL (by rfl') s9) (.inl ⟨rfl,rfl⟩) (SG (by rfl'))
   refine J.trim (Yq:= [.con 577 (.d (.bool true)) H8,.k 578]) YA.rf ((ZA hT 24).ss (K:=Zp YA 8 (.ret (.loc 8)) (W9 p bd) H9) ?_) fun a σ q=>⟨.ret (.loc 8),W9 p bd,H9,[],q,hk⟩
   refine @cast (Z5 G (n+5) (.Z8 (.ref 620)) [.loc 0,.loc 6,.d (.int x),.d (.bool true)] H8 (.d (.bool true)) H8/\small ws.length=true/\Zp YA 8 (.ret (.loc 8)) (W9 p bd) H9 (.ret (.loc 8)) ⟨L2,H9++ [],[]⟩) _ (by rfl') ⟨ch,YX hl,?_⟩
   exact Zz (ZL (by rfl') s9) (.inl ⟨rfl,rfl⟩) (SG (by rfl'))
theorem Og {K:Nat}:∀(k:Nat) (a:Int),((Yp a k).all fun y=>y.sc K)=true
 |0,_=>rfl
 |k+1,a=>Og k (a - 1)
theorem Vr {K:Nat}{A B:List AO}{x:Int}{c:Nat}(h:(Y9 K A && Y9 K B)=true):Y9 K (A++ .it false (Yp x c)::B)=true:=by
 obtain ⟨h1,h2⟩:=g6.mp h
 unfold Y9 at*
 rw[bJ,fP,h1,h2]
 have:(AO.it false (Yp x c)).sc K=true:=Og c x
 rw[this];rfl
def Zi (P:Int->Bool) (a:Int):Nat->Option Int|0=>none|k+1=>match P a with|true=>some a|false=>Zi P (a - 1) k
abbrev MC:Fn:=Zc 63 none ["view","place","codes","bound","folds"] []
abbrev S9:Stmt:=VZ MC 0
theorem Eg:S9= .For (VL S9) (LB S9) (Wt S9) [] (FY S9):=by rfl'
abbrev W8 (p bd:Int):List (Str×AV):= [("view",.loc 0),("place",.d (.int p)),("codes",.loc 6),("bound",.d (.int bd)),("folds",.d (.bool true))]
abbrev Cy (o:Option Int):Zk:=match o with|none=> .next|some _=> .ret (.loc 8)
abbrev Of (H:List AO) (m e:Int) (o:Option Int):List AO:=match o with|none=>H|some s=>H++ [.it false (Yp (s - 1) (s - 1 - e).toNat),Z9 s m]
theorem Hl {n:Nat}{us ws:List Int}{pt p bd:Int}{q:BB}(hT:ZY G T0) (hh:Holds us q.bz q.zv q.gs q.cs) (hu:∀u∈us,isLt u) (hw:∀w∈ws,isLt w) (hl:ws.length<=100) (hp:0<=p/\p<=1000) (hz: -1000<=max bd q.bz/\max bd q.bz<=1000):
  Wb G (n+5) (fm MC) S9 (W8 p bd) (Ym pt q ws) (Cy (Zi (fun s=>Zo (ZV us q.bz q.zv) s ws) (p - ws.length) (p - ws.length - (max bd q.bz - 1)).toNat)) (W8 p bd)
   (Of (Ym pt q ws) ws.length (max bd q.bz - 1) (Zi (fun s=>Zo (ZV us q.bz q.zv) s ws) (p - ws.length) (p - ws.length - (max bd q.bz - 1)).toNat)):=by
 generalize he:max bd q.bz - 1=e
 generalize hq:p - (ws.length:Int)=p'
 generalize hr:Zi (fun s=>Zo (ZV us q.bz q.zv) s ws) p' (p' - e).toNat=b
 let H7:=Ym pt q ws
 let K3:Zk->St->Prop:=Zp YA 7 (Cy b) (W8 p bd) (Of H7 ws.length e b)
 let S:Int->Nat->St:=fun x c=>⟨W8 p bd,H7++ [.it false (Yp x c)],[]⟩
 refine WI (F:=24) (os:= [.k 581,.k 581,.k 0]) hT Eg (by rfl') ?_
 have hsl:∀i:Int, -2000<=i/\i<=2000->QE i=true:=fun i hi=>fT (VY hi (by decide))
 have hsm:∀i:Int, -2000<=i/\i<=2000->Y6 i=true:=fun i hi=>fT (VY hi (by decide))
 refine @cast (small ws.length=true/\(match QE (p - (ws.length:Int)) with|true=>QE (max bd q.bz - 1)|false=>false)=true/\(match Y6 (p - (ws.length:Int)) with|true=>Y6 (max bd q.bz - 1)|false=>false)=true/\Kw G (n+5) (fm MC) 7 (VL S9) (Wt S9) (S (p - (ws.length:Int)) (p - (ws.length:Int)- (max bd q.bz - 1)).toNat) K3) _ (by rfl') ⟨YX hl,?_,?_,?_⟩
 ·rw[hsl (p - (ws.length:Int)) (by omega)];exact hsl _ (by omega)
 ·rw[hsm (p - (ws.length:Int)) (by omega)];exact hsm _ (by omega)
 rw[he,hq]
 refine Wo (fun c σ=>∃x,c=(x - e).toNat/\Zi (fun s=>Zo (ZV us q.bz q.zv) s ws) x c=b/\σ=S x c) ?_ (p' - e).toNat ⟨p',rfl,hr,rfl⟩
 rintro c _ ⟨x,hc,hf,rfl⟩
 refine Qs (σ:=S x c) (k:=7) (by rfl') rfl ?_
 cases c with
 |zero=>
  have hb:b=none:=hf.symm
  subst hb
  exact Zz (g:= [.gone]) (by rfl') trivial (SG (by rfl'))
 |succ c=>
  let H8:=H7++ [.it false (Yp (x - 1) c)]
  let L2:List (Str×AV):=Mine.put (W8 p bd) "start" (.d (.int x))
  show Rg G (n+5) (fm MC) (VL S9) (.d (.int x)) ⟨W8 p bd,H8,[]⟩ _ Zn
  refine(ZA hT 16).a ?_
  refine @cast (X0 G (n+5) (fm MC) (Wt S9) ⟨L2,H8,[]⟩ (Yl K3 fun Zq=>∃c',c'<c+1/\∃x,c'=(x - e).toNat/\Zi (fun s=>Zo (ZV us q.bz q.zv) s ws) x c'=b/\Zq=S x c') Zn) _ (by rfl') ?_
  have ch:Z5 G (n+5) (.Z8 (.ref 620)) [.loc 0,.loc 6,.d (.int x),.d (.bool true)] H8 (.d (.bool (Zo (ZV us q.bz q.zv) x ws))) H8:=
   (Oj (n:=n+1) (pt:=pt) (q:=q) (p:=x) hT hh hu hw).at [0,1,2,3,4,5,6] (by rfl') (by rfl') (by rfl')
  have hf':(match Zo (ZV us q.bz q.zv) x ws with|true=>some x|false=>Zi (fun s=>Zo (ZV us q.bz q.zv) s ws) (x - 1) c)=b:=hf
  revert ch hf'
  generalize Zo (ZV us q.bz q.zv) x ws=q
  intro ch hf'
  have ll:Hy 8 L2 (W8 p bd):=SG (by rfl')
  cases q with
  |false=>
   have hf':Zi (fun s=>Zo (ZV us q.bz q.zv) s ws) (x - 1) c=b:=hf'
   refine J.trim (Yq:= [.con 582 (.d (.bool false)) H8]) YA.rf ((ZA hT 24).ss (K:=Zp YA 8 .next (W8 p bd) H8) ?_) fun a σ q=>⟨.next,W8 p bd,H8,[],q,⟨c,fU _,x - 1,(Mj hc).symm,hf',rfl⟩⟩
   refine @cast (Z5 G (n+5) (.Z8 (.ref 620)) [.loc 0,.loc 6,.d (.int x),.d (.bool true)] H8 (.d (.bool false)) H8/\Zp YA 8 .next (W8 p bd) H8 .next ⟨L2,H8++ [],[]⟩) _ (by rfl') ⟨ch,?_⟩
   exact Zz (ZL (by rfl') (Vr (by rfl'))) trivial ll
  |true=>
   have hb:b=some x:=hf'.symm
   subst hb
   let H9:=H7++ [.it false (Yp (x - 1) c),Z9 x ws.length]
   have hE:Of H7 ws.length e (some x)=H9:=by
    show H7++ [.it false (Yp (x - 1) (x - 1 - e).toNat),Z9 x ws.length]=_
    rw[Mj hc]
   have s9:Y9 9 H9=true:=Vr (by rfl')
   have hk:Yl K3 (fun Zq=>∃c',c'<c+1/\∃x_1,c'=(x_1 - e).toNat/\Zi (fun s=>Zo (ZV us q.bz q.zv) s ws) x_1 c'=some x/\Zq=S x_1 c') (.ret (.loc 8)) ⟨W8 p bd,H9,[]⟩:=by
    show Zp YA 7 (.ret (.loc 8)) (W8 p bd) (Of H7 ws.length e (some x)) (.ret (.loc 8)) ⟨W8 p bd,H9,[]⟩
    rw[hE]
    exact(gE H9)▸Zz (g:= []) (ZL (by rfl') s9) (.inl ⟨rfl,rfl⟩) (SG (by rfl'))
   refine J.trim (Yq:= [.con 582 (.d (.bool true)) H8,.k 583]) YA.rf ((ZA hT 24).ss (K:=Zp YA 8 (.ret (.loc 8)) (W8 p bd) H9) ?_) fun a σ q=>⟨.ret (.loc 8),W8 p bd,H9,[],q,hk⟩
   refine @cast (Z5 G (n+5) (.Z8 (.ref 620)) [.loc 0,.loc 6,.d (.int x),.d (.bool true)] H8 (.d (.bool true)) H8/\small ws.length=true/\Zp YA 8 (.ret (.loc 8)) (W8 p bd) H9 (.ret (.loc 8)) ⟨L2,H9++ [],[]⟩) _ (by rfl') ⟨ch,YX hl,?_⟩
   exact Zz (ZL (by rfl') s9) (.inl ⟨rfl,rfl⟩) (SG (by rfl'))
abbrev Xv (k:Nat) (o:Option Int):AV:=match o with|none=> .d .none|some _=> .loc k
abbrev YE (m:Int) (o:Option Int):List AO:=match o with|none=> []|some s=> [Z9 s m]
theorem vN {n:Nat}{us ws:List Int}{pt p bd:Int}{q:BB}(hT:ZY G T0) (hh:Holds us q.bz q.zv q.gs q.cs) (hu:∀u∈us,isLt u) (hw:∀w∈ws,isLt w) (hl:ws.length<=100) (hp:0<=p/\p<=1000) (hz: -1000<=min bd q.zv/\min bd q.zv<=1000) {o:Option Int}
  (ho:Zf (fun s=>Zo (ZV us q.bz q.zv) s ws) p (min bd q.zv - ws.length+1 - p).toNat=o):
  Z5 G (n+6) (.Z8 (.ref 627)) [.loc 0,.d (.int p),.loc 6,.d (.int bd),.d (.bool true)] (Ym pt q ws) (Xv 7 o) (Ym pt q ws++YE ws.length o):=by
 have c:=Ho (n:=n) (pt:=pt) (q:=q) (bd:=bd) hT hh hu hw hl hp hz
 rw[ho] at c
 clear ho
 let H7:=Ym pt q ws
 cases o with
 |none=>
  show Z5 G (n+6) _ _ H7 (.d .none) (H7++ [])
  rw[gE]
  refine con (F:=16) hT (by rfl') fun loc=>⟨[.cut 576 .next (W9 p bd) H7],0,?_⟩
  refine @cast (Wb G (n+5) (fm MD) S_ (W9 p bd) H7 .next (W9 p bd) H7/\Post loc (.d .none) H7 (.d .none) ⟨loc,H7,[]⟩) _ (by rfl') ⟨c,Z1 rfl⟩
 |some s=>
  let H1:=Oh H7 ws.length (min bd q.zv - ws.length+1) (some s)
  have k:Z5 G (n+6) (.Z8 (.ref 627)) [.loc 0,.d (.int p),.loc 6,.d (.int bd),.d (.bool true)] H7 (.loc 8) H1:=by
   refine con (F:=16) hT (ZL (H':=H1) (by rfl') (VK (by rfl'))) fun loc=>⟨[.cut 576 (.ret (.loc 8)) (W9 p bd) H1],0,?_⟩
   refine @cast (Wb G (n+5) (fm MD) S_ (W9 p bd) H7 (.ret (.loc 8)) (W9 p bd) H1/\Post loc (.loc 8) H1 (.loc 8) ⟨loc,H1,[]⟩) _ (by rfl') ⟨c,Z1 (by rfl')⟩
  exact k.anew [0,1,2,3,4,5,6,8] (by rfl') (by rfl') (by rfl')
theorem vM {n:Nat}{us ws:List Int}{pt p bd:Int}{q:BB}(hT:ZY G T0) (hh:Holds us q.bz q.zv q.gs q.cs) (hu:∀u∈us,isLt u) (hw:∀w∈ws,isLt w) (hl:ws.length<=100) (hp:0<=p/\p<=1000) (hz: -1000<=max bd q.bz/\max bd q.bz<=1000) {o:Option Int}
  (ho:Zi (fun s=>Zo (ZV us q.bz q.zv) s ws) (p - ws.length) (p - ws.length - (max bd q.bz - 1)).toNat=o):
  Z5 G (n+6) (.Z8 (.ref 634)) [.loc 0,.d (.int p),.loc 6,.d (.int bd),.d (.bool true)] (Ym pt q ws) (Xv 7 o) (Ym pt q ws++YE ws.length o):=by
 have c:=Hl (n:=n) (pt:=pt) (q:=q) (bd:=bd) hT hh hu hw hl hp hz
 rw[ho] at c
 clear ho
 let H7:=Ym pt q ws
 cases o with
 |none=>
  show Z5 G (n+6) _ _ H7 (.d .none) (H7++ [])
  rw[gE]
  refine con (F:=16) hT (by rfl') fun loc=>⟨[.cut 581 .next (W8 p bd) H7],0,?_⟩
  refine @cast (Wb G (n+5) (fm MC) S9 (W8 p bd) H7 .next (W8 p bd) H7/\Post loc (.d .none) H7 (.d .none) ⟨loc,H7,[]⟩) _ (by rfl') ⟨c,Z1 rfl⟩
 |some s=>
  let H1:=Of H7 ws.length (max bd q.bz - 1) (some s)
  have k:Z5 G (n+6) (.Z8 (.ref 634)) [.loc 0,.d (.int p),.loc 6,.d (.int bd),.d (.bool true)] H7 (.loc 8) H1:=by
   refine con (F:=16) hT (ZL (H':=H1) (by rfl') (Vr (by rfl'))) fun loc=>⟨[.cut 581 (.ret (.loc 8)) (W8 p bd) H1],0,?_⟩
   refine @cast (Wb G (n+5) (fm MC) S9 (W8 p bd) H7 (.ret (.loc 8)) (W8 p bd) H1/\Post loc (.loc 8) H1 (.loc 8) ⟨loc,H1,[]⟩) _ (by rfl') ⟨c,Z1 (by rfl')⟩
  exact k.anew [0,1,2,3,4,5,6,8] (by rfl') (by rfl') (by rfl')
abbrev WH (sc:List Int) (k:Int):List AO:= [.list [.loc 1,.d (.int k)],.Z_ sc]
def ZN (sc:List Int) (k many:Int):Int:=if k+1<=sc.length then dI (sc.getD k.toNat 0) many else dI (Int.fdiv ((k+1)*(k+1)*31+17*(k+1)+5*(sc.length:Int)+7) 3) many
theorem Hj {n:Nat}{sc:List Int}{k many:Int}(hT:ZY G T0) (hk:0<=k/\k<=1000) (hs:sc.length<=100) (hm:many≠0):
  Z5 G (n+1) (.Z8 (.ref 1589)) [.loc 0,.d (.int many)] (WH sc k) (.d (.int (ZN sc k many))) (WH sc (k+1)):=by
 have o2:Wq 1 2=true:=by rfl'
 have o0:Wq 0 2=true:=by rfl'
 have m0:(!decide (many=0))=true:=by rw[decide_eq_false hm];rfl
 unfold ZN
 by_cases h:k+1<=sc.length
 ·rw[if_pos h]
  refine con (F:=30) hT (by rfl') fun loc=>⟨[.k 1160,.k 1160,.k 1160,.t 1160,.k 1161,.k 1161,.k 1161,.k 1161],0,?_⟩
  have e:sc.getD (UW (k+1 - 1) sc.length) 0=sc.getD k.toNat 0:=by rw[Pw (by omega)];congr 1;omega
  rw[<-e]
  refine @cast (Wq 1 2=true/\Wq 0 2=true/\small sc.length=true/\decide (k+1<=sc.length)=true/\Wq 0 2=true/\Wq 1 2=true/\Wq (k+1 - 1) sc.length=true/\(!decide (many=0))=true/\
   Post loc (.d (.int (dI (sc.getD (UW (k+1 - 1) sc.length) 0) many))) (WH sc (k+1)) (.d (.int (dI (sc.getD (UW (k+1 - 1) sc.length) 0) many))) ⟨loc,WH sc (k+1),[]⟩) _ (by rfl')
   ⟨o2,o0,YX hs,decide_eq_true h,o0,o2,Px (by omega) (by omega) hs,m0,Z1 rfl⟩
 ·rw[if_neg h]
  refine con (F:=30) hT (by rfl') fun loc=>⟨[.k 1160,.k 1160,.k 1160,.f 1160,.k 1162,.k 1162,.k 1162,.k 1162,.k 1162,.k 1162,.k 1162,.k 1162,.k 1162,.k 1162,.k 1162],0,?_⟩
  have sm:∀i:Int,0<=i/\i<=2000000->QE i=true:=fun i hi=>fT (by omega)
  have jI:0<=(k+1)*(k+1)/\(k+1)*(k+1)<=2000000:=by
   have h1:(k+1)*(k+1)<=1001*1001:=Int.mul_le_mul (by omega) (by omega) (by omega) (by omega)
   exact⟨Int.mul_nonneg (by omega) (by omega),by omega⟩
  refine @cast (Wq 1 2=true/\Wq 0 2=true/\small sc.length=true/\decide (k+1<=sc.length)=false/\Wq 1 2=true/\Wq 1 2=true/\QE (k+1)=true/\QE ((k+1)*(k+1))=true/\Wq 1 2=true/\QE 17=true/\Wq 0 2=true/\small sc.length=true/\QE 5=true/\
   (match decide ((3:Int)=0) with|true=>false|false=>QE 3)=true/\(!decide (many=0))=true/\
   Post loc (.d (.int (dI (Int.fdiv ((k+1)*(k+1)*31+17*(k+1)+5*(sc.length:Int)+7) 3) many))) (WH sc (k+1)) (.d (.int (dI (Int.fdiv ((k+1)*(k+1)*31+17*(k+1)+5*(sc.length:Int)+7) 3) many))) ⟨loc,WH sc (k+1),[]⟩) _ (by rfl')
   ⟨o2,o0,YX hs,decide_eq_false h,o2,o2,sm _ (by omega),sm _ jI,o2,sm _ (by omega),o0,YX hs,sm _ (by omega),by rfl',m0,Z1 rfl⟩
theorem Y5 {sc:List Int}{k many:Int}(hm:0<many):0<=ZN sc k many/\ZN sc k many<many:=by
 unfold ZN
 split
 ·exact⟨Int.fmod_nonneg_of_pos _ hm,Int.fmod_lt_of_pos _ hm⟩
 ·exact⟨Int.fmod_nonneg_of_pos _ hm,Int.fmod_lt_of_pos _ hm⟩
def Xb (sc:List Int) (k:Int) (s:Str):Nat:=s.cps.toList.getD (UW (ZN sc k s.length) s.length) 0
theorem AM {n:Nat}{sc:List Int}{k:Int}{s:Str}(hT:ZY G T0) (hk:0<=k/\k<=1000) (hs:sc.length<=100) (h0:0<s.length) (h1:s.length<=100):
  Z5 G (n+2) (.Z8 (.ref 1596)) [.loc 0,.d (.str s)] (WH sc k) (.d (.str (Zj (Xb sc k s)))) (WH sc (k+1)):=by
 have hr:=Y5 (sc:=sc) (k:=k) (many:=(s.length:Int)) (by omega)
 refine con (F:=24) hT (by rfl') fun loc=>⟨[.k 1164,.con 1164 (.d (.int (ZN sc k s.length))) (WH sc (k+1)),.k 1164],0,?_⟩
 refine @cast (small s.length=true/\Z5 G (n+1) (.Z8 (.ref 1589)) [.loc 0,.d (.int (s.length:Int))] (WH sc k) (.d (.int (ZN sc k s.length))) (WH sc (k+1))/\Wq (ZN sc k s.length) s.length=true/\
  Post loc (.d (.str (Zj (Xb sc k s)))) (WH sc (k+1)) (.d (.str (Zj (Xb sc k s)))) ⟨loc,WH sc (k+1),[]⟩) _ (by rfl')
  ⟨YX h1,Hj hT hk hs (by omega),Px hr.1 hr.2 h1,Z1 rfl⟩
def AL (bt lm mm mt un mk am rc:Nat):AO:= .inst 1494 [("buffers",.loc bt),("commands",.d .none),("global_map",.d .none),("local_maps",.loc lm),("minor_maps",.loc mm),("question_map",.d .none),("questions",.d .none),("asker",.d .none),("kills",.d .none),("registers",.d .none),("abbrevs",.d .none),("windows",.d .none),("files",.d .none),("machine",.d .none),("rules",.d .none),("further",.d .none),("matches",.loc mt),("loop",.d .none),("goal",.d .none),("undoing",.loc un),("marks",.loc mk),("amalgam",.loc am),("message",.d (.str "")),("panes",.d .none),("modes",.d .none),("fill_column",.d (.int 70)),("tab_width",.d (.int 8)),("rectangle",.loc rc),("last_expansion",.d .none),("replacing",.d .none)]
def AK (rw od:Nat):AO:= .inst 1262 [("rows",.loc rw),("order",.loc od),("current",.d (.int 1)),("last_number",.d (.int 1)),("last_marker",.d (.int 0))]
def Lz (x:Expr):Expr:=Ye 16 x (.Constant .none 0 default) fun h=> @cI (fun _=>Expr) x h fun _ l _ _=>l.head?.getD (.Constant .none 0 default)
def Ef (x:Stmt):Expr:=XO 5 x (.Constant .none 0 default) fun h=> @aT (fun _=>Expr) x h fun _ v _=>v
def mS (x:Stmt):List Stmt:=XO 12 x ([]) fun h=> @cA (fun _=>List Stmt) x h fun _ b _ _=>b
def mR (x:Stmt):List Stmt:=XO 12 x ([]) fun h=> @cA (fun _=>List Stmt) x h fun _ _ b _=>b
def Ly (x:Expr):gQ:=Ye 4 x (default) fun h=> @PySem.Expr.Lambda.elim (fun _=>gQ) x h fun _ _ s _=>s
def Ed (x:Expr):Expr:=Ye 4 x (.Constant .none 0 default) fun h=> @PySem.Expr.Lambda.elim (fun _=>Expr) x h fun _ b _ _=>b
abbrev FW:Fn:=s6 84 ["editor","codes","count"] 824 "search_by.<locals>."
abbrev FU:Fn:=s6 85 ["editor","codes","count"] 831 "re_search_by.<locals>."
abbrev vK:Expr:=Lz (Ef ((mS (VZ FW 2))[0]?.getD (.Pass default)))
abbrev vJ:Expr:=Lz (Ef ((mR (VZ FW 2))[0]?.getD (.Pass default)))
abbrev vI:Expr:=Lz (Ef ((mS (VZ FU 2))[0]?.getD (.Pass default)))
abbrev vH:Expr:=Lz (Ef ((mR (VZ FU 2))[0]?.getD (.Pass default)))
abbrev Pp (a b c:Nat):AV:= .YV ["place"] (Ed vK) (Ly vK) [("high",a),("codes",b),("buffer",c)]
abbrev S8 (a b c:Nat):AV:= .YV ["place"] (Ed vJ) (Ly vJ) [("low",a),("codes",b),("buffer",c)]
abbrev hcl (pt:Int) (q:BB) (ws:List Int) (bd:Int):List AO:=Ym pt q ws++ [.cell (some (.d (.int bd))),.cell (some (.loc 0)),.cell (some (.loc 6))]
theorem AJ {n:Nat}{us ws:List Int}{pt p bd:Int}{q:BB}(hT:ZY G T0) (hh:Holds us q.bz q.zv q.gs q.cs) (hu:∀u∈us,isLt u) (hw:∀w∈ws,isLt w) (hl:ws.length<=100) (hp:0<=p/\p<=1000) (hz: -1000<=min bd q.zv/\min bd q.zv<=1000) {o:Option Int}
  (ho:Zf (fun s=>Zo (ZV us q.bz q.zv) s ws) p (min bd q.zv - ws.length+1 - p).toNat=o):
  Z5 G (n+7) (Pp 7 9 8) [.d (.int p)] (hcl pt q ws bd) (Xv 10 o) (hcl pt q ws bd++YE ws.length o):=by
 have c:=vN (n:=n) (pt:=pt) (q:=q) hT hh hu hw hl hp hz ho
 clear ho
 let H:=hcl pt q ws bd
 have k:Z5 G (n+6) (.Z8 (.ref 627)) [.loc 0,.d (.int p),.loc 6,.d (.int bd),.d (.bool true)] H (Xv 10 o) (H++YE ws.length o):=by
  cases o with
  |none=>exact c.at [0,1,2,3,4,5,6] (by rfl') (by rfl') (by rfl')
  |some s=>exact c.at [0,1,2,3,4,5,6] (by rfl') (by rfl') (by rfl')
 cases o with
 |none=>
  refine con (F:=16) hT (by rfl') fun loc=>⟨[.con 707 (.d .none) (H++ [])],0,?_⟩
  exact @cast (Z5 G (n+6) (.Z8 (.ref 627)) [.loc 0,.d (.int p),.loc 6,.d (.int bd),.d (.bool true)] H (.d .none) (H++ [])/\Post loc (.d .none) (H++ []) (.d .none) ⟨loc,H++ [],[]⟩) _ (by rfl') ⟨k,Z1 rfl⟩
 |some s=>
  refine con (F:=16) hT (by rfl') fun loc=>⟨[.con 707 (.loc 10) (H++ [Z9 s ws.length])],0,?_⟩
  exact @cast (Z5 G (n+6) (.Z8 (.ref 627)) [.loc 0,.d (.int p),.loc 6,.d (.int bd),.d (.bool true)] H (.loc 10) (H++ [Z9 s ws.length])/\Post loc (.loc 10) (H++ [Z9 s ws.length]) (.loc 10) ⟨loc,H++ [Z9 s ws.length],[]⟩) _ (by rfl') ⟨k,Z1 (by rfl')⟩
theorem AI {n:Nat}{us ws:List Int}{pt p bd:Int}{q:BB}(hT:ZY G T0) (hh:Holds us q.bz q.zv q.gs q.cs) (hu:∀u∈us,isLt u) (hw:∀w∈ws,isLt w) (hl:ws.length<=100) (hp:0<=p/\p<=1000) (hz: -1000<=max bd q.bz/\max bd q.bz<=1000) {o:Option Int}
  (ho:Zi (fun s=>Zo (ZV us q.bz q.zv) s ws) (p - ws.length) (p - ws.length - (max bd q.bz - 1)).toNat=o):
  Z5 G (n+7) (S8 7 9 8) [.d (.int p)] (hcl pt q ws bd) (Xv 10 o) (hcl pt q ws bd++YE ws.length o):=by
 have c:=vM (n:=n) (pt:=pt) (q:=q) hT hh hu hw hl hp hz ho
 clear ho
 let H:=hcl pt q ws bd
 have k:Z5 G (n+6) (.Z8 (.ref 634)) [.loc 0,.d (.int p),.loc 6,.d (.int bd),.d (.bool true)] H (Xv 10 o) (H++YE ws.length o):=by
  cases o with
  |none=>exact c.at [0,1,2,3,4,5,6] (by rfl') (by rfl') (by rfl')
  |some s=>exact c.at [0,1,2,3,4,5,6] (by rfl') (by rfl') (by rfl')
 cases o with
 |none=>
  refine con (F:=16) hT (by rfl') fun loc=>⟨[.con 709 (.d .none) (H++ [])],0,?_⟩
  exact @cast (Z5 G (n+6) (.Z8 (.ref 634)) [.loc 0,.d (.int p),.loc 6,.d (.int bd),.d (.bool true)] H (.d .none) (H++ [])/\Post loc (.d .none) (H++ []) (.d .none) ⟨loc,H++ [],[]⟩) _ (by rfl') ⟨k,Z1 rfl⟩
 |some s=>
  refine con (F:=16) hT (by rfl') fun loc=>⟨[.con 709 (.loc 10) (H++ [Z9 s ws.length])],0,?_⟩
  exact @cast (Z5 G (n+6) (.Z8 (.ref 634)) [.loc 0,.d (.int p),.loc 6,.d (.int bd),.d (.bool true)] H (.loc 10) (H++ [Z9 s ws.length])/\Post loc (.loc 10) (H++ [Z9 s ws.length]) (.loc 10) ⟨loc,H++ [Z9 s ws.length],[]⟩) _ (by rfl') ⟨k,Z1 (by rfl')⟩
end
section
variable {G:Gm}{n:Nat}
def anyF (xs:List Str):List (Str×AV)->List (Str×AV)
 | []=> []
 |(y,a)::l=>(y,match xs.any (fun z=>sq y z) with|true=> .any|false=>a)::anyF xs l
def vG (xs:List Str):AO->AO| .inst C fs=> .inst C (anyF xs fs)|o=>o
def J9 (xs:List Str):Nat->List AO->List AO
 |_,[]=> []
 |0,o::l=>vG xs o::l
 |s+1,o::l=>o::J9 xs s l
theorem TF.any {k:Nat}{xs:List Str}:∀{l:List (Str×AV)},((anyF xs l).all fun x=>x.2.sc k)=true->TK (SA k) l (anyF xs l)
 | [],_=> .nil
 |(y,a)::l,h=>by
  obtain ⟨h1,h2⟩:=all_cons h
  refine .cons ?_ (TF.any h2)
  revert h1
  cases xs.any (fun z=>sq y z) with
  |true=>exact fun _=> .inr rfl
  |false=>exact fun h=> .inl ⟨rfl,h⟩
theorem TH.same {k:Nat}{H:List AO}(h:Y9 k H=true):TH (SA k) H H:=(TH.sc h).imp .inl
theorem RI {k:Nat}{o:AO}{H:List AO}(h:Y9 k (o::H)=true):o.sc k=true/\Y9 k H=true:=all_cons h
theorem TH.any {k:Nat}{xs:List Str}:∀{H:List AO}{s:Nat},Y9 k (J9 xs s H)=true->TH (SA k) H (J9 xs s H)
 | [],s,_=>by cases s<;>exact .nil
 |o::H,0,h=>by
  have h:Y9 k (vG xs o::H)=true:=h
  obtain ⟨h1,h2⟩:=RI h
  refine .cons ?_ (TH.same h2)
  cases o with
  |inst C fs=>exact .inst (TF.any h1)
  |_=>exact TO.sa (TO.sc h1)
 |o::H,s+1,h=>by
  have h:Y9 k (o::J9 xs s H)=true:=h
  exact .cons (TO.sa (TO.sc (RI h).1)) (TH.any (RI h).2)
theorem Z5.any {f:AV}{as:List AV}{H H1 H':List AO}{r:AV}(c:Z5 G n f as H r H1) (Hx g:List AO) (s:Nat) (xs:List Str) (h1:(Hx++g,J9 xs s Hx)=(H1,H'))
  (h2:(gK H.length H'.length && (Y9 H'.length H' && r.sc H'.length))=true):Z5 G n f as H r H':=by
 simp only[bL] at h1
 obtain ⟨rfl,rfl⟩:=h1
 obtain ⟨a,b⟩:=g6.mp h2
 obtain ⟨b,d⟩:=g6.mp b
 exact c.less a (TH.any b) (.inl ⟨rfl,d⟩)
end
section
variable {G:Gm}{n:Nat}{Φ:Fm}
theorem Rep.handed' {ρ:List Addr}{B:Part}{k:Nat}:Tr ρ ρ B (SA k):=fun x y v t h=>by
 rcases t with ⟨rfl,_⟩|rfl
 ·exact h
 ·exact h.handed
theorem Rel.weak {L:Addr}{ω:Wd}{loc:List (Str×AV)}{H H':List AO}{os os':List Gh}{fs:Frs}{h:Heap}{k:Nat}(ht:TH (SA k) H H') (R:Rel G L ω ⟨loc,H,os⟩ fs h):Rel G L ω ⟨loc,H',os'⟩ fs h:=by
 obtain ⟨m,lm,RR⟩:=R
 refine⟨m,lm,RR.len.trans ht.len.symm,RR.ss.YT fun V hV=> ?_⟩
 have hV:Z0 (parts ω.B ω.ρ ω.ρ H++frames fs) V:=hV
 exact TH.parts Rep.handed' ht hV
theorem Wb.pre {st:Stmt}{loc YQ:List (Str×AV)}{H H0 H1:List AO}{fl:Zk}(c:Wb G n Φ st loc H fl YQ H1) (s:Nat) (xs:List Str) (h1:J9 xs s H0=H) (h2:Y9 H.length H=true):Wb G n Φ st loc H0 fl YQ H1:=fun os {env ω fs} he=> @fun A h hA R=>
 c os he hA (R.weak (k:=H.length) (by subst h1;exact TH.any h2))
end
section
variable {G:Gm}{n:Nat}
theorem AV.VJ {k:Nat}{r:Nat->Nat}(hr:∀i,i<k->r i=i) {a:AV}(h:a.sc k=true):a.Yb r=a:=by
 cases a with
 |loc i=>exact congrArg AV.loc (hr i (gk.mp h))
 |YV ps b sc cl=>
  have:∀l:List (Str×Nat),(l.all fun x=>fZ x.2 k)=true->Ke r l=l:=fun l=>by
   induction l with
   |nil=>exact fun _=>rfl
   |cons x l ih=>
    intro h
    rw[fP,g6] at h
    show (x.1,r x.2)::Ke r l=x::l
    rw[ih h.2,hr _ (gk.mp h.1)]
  exact congrArg (AV.YV ps b sc) (this cl h)
 |_=>rfl
theorem UG {k:Nat}{r:Nat->Nat}(hr:∀i,i<k->r i=i):∀{l:List AV},(l.all fun x=>x.sc k)=true->Yk r l=l
 | [],_=>rfl
 |x::l,h=>by
  rw[fP,g6] at h
  show x.Yb r::Yk r l=_
  rw[AV.VJ hr h.1,UG hr h.2]
theorem Po {κ:Type}{k:Nat}{r:Nat->Nat}(hr:∀i,i<k->r i=i):∀{l:List (κ×AV)},(l.all fun x=>x.2.sc k)=true->MI r l=l
 | [],_=>rfl
 |(y,x)::l,h=>by
  obtain ⟨h1,h2⟩:=all_cons h
  show (y,x.Yb r)::MI r l=_
  rw[AV.VJ hr h1,Po hr h2]
theorem Lx {k:Nat}{r:Nat->Nat}(hr:∀i,i<k->r i=i):∀{l:List (AV×AV)},(l.all fun x=>x.1.sc k && x.2.sc k)=true->Kc r l=l
 | [],_=>rfl
 |(x,y)::l,h=>by
  obtain ⟨h1,h2⟩:=all_cons h
  obtain ⟨h3,h4⟩:=g6.mp h1
  show (x.Yb r,y.Yb r)::Kc r l=_
  rw[AV.VJ hr h3,AV.VJ hr h4,Lx hr h2]
theorem AO.VJ {k:Nat}{r:Nat->Nat}(hr:∀i,i<k->r i=i) {o:AO}(h:o.sc k=true):o.Yb r=o:=by
 cases o with
 |inst C fs=>exact congrArg (AO.inst C) (Po hr h)
 |list l=>exact congrArg AO.list (UG hr h)
 |cell v=>cases v with
  |none=>rfl
  |some x=>exact congrArg (fun x=>AO.cell (some x)) (AV.VJ hr h)
 |dict l=>exact congrArg AO.dict (Po hr h)
 |lit n i=>exact congrArg (AO.lit · i) (hr n (gk.mp h))
 |Vm n i=>exact congrArg (AO.Vm · i) (hr n (gk.mp h))
 |en n i=>exact congrArg (AO.en · i) (hr n (gk.mp h))
 |zp l=>exact congrArg AO.zp (Lx hr h)
 |mb C x l=>exact congrArg (AO.mb C x) (UG hr h)
 |it t els=>exact congrArg (AO.it t) (UG hr h)
 |_=>rfl
theorem Pn {k:Nat}{r:Nat->Nat}(hr:∀i,i<k->r i=i):∀{H:List AO},Y9 k H=true->YI r H=H
 | [],_=>rfl
 |x::l,h=>by
  unfold Y9 at h
  rw[fP,g6] at h
  show x.Yb r::YI r l=_
  rw[AO.VJ hr h.1,Pn hr h.2]
theorem Ub:∀(H P E:List AO),YB (fB P.length H.length) H (P++(H++E)) (P++(H.map (fun _=> .gone)++E))
 | [],P,E=> .nil
 |o::t,P,E=>by
  have:=Ub t (P++ [.gone]) E
  rw[gA,gG,gG] at this
  refine .cons (by rw[d9 (gi _),cQ];rfl) ?_
  rw[aS _ _ (gi _),cQ]
  exact this
theorem Oe:∀(H P E:List AO),XA (fB P.length H.length) H (P++(H.map (fun _=> .gone)++E))=P++(H++E)
 | [],P,E=>rfl
 |o::t,P,E=>by
  have:=Oe t (P++ [.gone]) E
  rw[gA,gG,gG] at this
  show (XA (fB (P.length+1) t.length) t (P++([.gone]++(t.map (fun _=> .gone)++E)))).set P.length o=_
  refine(congrArg (List.set · P.length o) this).trans ?_
  rw[aS _ _ (gi _),cQ]
  rfl
theorem Ec {k m i:Nat}(h:i<k):Mine.YN (fB 0 k) m i=i:=by
 refine Ud ?_
 rw[List.getElem?_range' (by omega)];congr 1;omega
theorem Z5.ext {f:AV}{as:List AV}{H N E:List AO}{r:AV}(c:Z5 G n f as H r (H++N)) (hs:(Y9 H.length H && (f.sc H.length && as.all fun x=>x.sc H.length))=true) {r':AV}{N':List AO}
  (h:(r.Yb (Mine.YN (fB 0 H.length) (H++E).length),YI (Mine.YN (fB 0 H.length) (H++E).length) N)=(r',N')):Z5 G n f as (H++E) r' ((H++E)++N'):=by
 simp only[bL] at h
 obtain ⟨h1,h2⟩:=g6.mp hs
 obtain ⟨h2,h3⟩:=g6.mp h2
 have hid:∀i,i<H.length->Mine.YN (fB 0 H.length) (H++E).length i=i:=fun i hi=>Ec hi
 have e0:YI (Mine.YN (fB 0 H.length) (H++E).length) H=H:=Pn hid h1
 have e1:∀A B:List AO,YI (Mine.YN (fB 0 H.length) (H++E).length) (A++B)=YI (Mine.YN (fB 0 H.length) (H++E).length) A++YI (Mine.YN (fB 0 H.length) (H++E).length) B:=fun A B=>by
  induction A with
  |nil=>rfl
  |cons x A ih=>exact congrArg (_::·) ih
 refine c.use (fB 0 H.length) (Hg:=H.map (fun _=> .gone)++E) ?_ ?_ (AV.VJ hid h2) (UG hid h3) h.1 ?_
 ·rw[e0];exact Ub H [] E
 ·rw[List.length_range',gA];exact fT (by omega)
 ·rw[e1,e0,h.2,List.length_range',List.take_left' rfl,List.drop_left' rfl]
  have:=Oe H [] E
  exact congrArg (·++N') this
theorem AV.Va {k k':Nat}(hk:k<=k') {a:AV}(h:a.sc k=true):a.sc k'=true:=by
 cases a with
 |loc i=>exact gk.mpr (d7 (gk.mp h) hk)
 |YV ps b sc cl=>
  refine gu.mpr fun x hx=>gk.mpr (d7 (gk.mp (gu.mp h x hx)) hk)
 |_=>rfl
theorem AO.Va {k k':Nat}(hk:k<=k') {o:AO}(h:o.sc k=true):o.sc k'=true:=by
 have al:∀{α:Type}{l:List α}{p q:α->Bool},(∀x,p x=true->q x=true)->l.all p=true->l.all q=true:=fun h x=>gu.mpr fun y hy=>h y (gu.mp x y hy)
 cases o with
 |inst C fs=>exact al (fun x=>AV.Va hk) h
 |list l=>exact al (fun x=>AV.Va hk) h
 |cell v=>cases v with
  |none=>rfl
  |some x=>exact AV.Va hk h
 |dict l=>exact al (fun x=>AV.Va hk) h
 |lit n i=>exact gk.mpr (d7 (gk.mp h) hk)
 |Vm n i=>exact gk.mpr (d7 (gk.mp h) hk)
 |en n i=>exact gk.mpr (d7 (gk.mp h) hk)
 |zp l=>exact al (fun x h=>by rw[g6] at h ⊢;exact⟨AV.Va hk h.1,AV.Va hk h.2⟩) h
 |mb C x l=>exact al (fun x=>AV.Va hk) h
 |it t els=>exact al (fun x=>AV.Va hk) h
 |_=>rfl
theorem AH {k k':Nat}(hk:k<=k') {H:List AO}(h:Y9 k H=true):Y9 k' H=true:=
 gu.mpr fun x hx=>AO.Va hk (gu.mp h x hx)
theorem VI {H M:List AO}(h:Y9 H.length H=true) (hM:Y9 (H++M).length M=true):(gK H.length (H++M).length && Y9 (H++M).length (H++M))=true:=by
 have hl:H.length<=(H++M).length:=by rw[gA];omega
 rw[fT hl,Bool.true_and]
 unfold Y9 at*
 rw[bJ,hM,Bool.and_true]
 exact AH hl h
theorem YB.app {e e':List Nat}{os os' H H1 H2:List AO}(h:YB e os H H1) (h':YB e' os' H1 H2):YB (e++e') (os++os') H H2:=by
 induction h with
 |nil=>exact h'
 |cons a _ ih=>exact .cons a (ih h')
theorem Z5.tail {f:AV}{as:List AV}{H M:List AO}{o:AO}{j:Nat}(c:Z5 G n f as H (.loc (H.length+j)) (H++M)) (hs:Y9 H.length H=true) (ho:∀r,o.Yb r=o) (hM:M[j]?=some o):Z5 G n f as H (.loc H.length) (H++ [o]):=by
 let e:List Nat:=fB 0 H.length++ [H.length+j]
 have el:e.length=H.length+1:=by simp[e]
 have low:∀m i,i<H.length->Mine.YN e m i=i:=fun m i hi=>by
  refine Ud ?_
  rw[c9 (by simpa using hi),List.getElem?_range' (by omega)];congr 1;omega
 have hi:∀m,Mine.YN e m H.length=H.length+j:=fun m=>by
  refine Ud ?_
  rw[d9 (by simp)];simp
 refine c.sel e (Hg:=(H.map (fun _=>AO.gone)++M).set (H.length+j) AO.gone) ?_ ?_ ?_
 ·have er:YI (Mine.YN e (H++M).length) (H++ [o])=H++ [o]:=by
   have app:∀A B:List AO,YI (Mine.YN e (H++M).length) (A++B)=YI (Mine.YN e (H++M).length) A++YI (Mine.YN e (H++M).length) B:=fun A B=>by
    induction A with
    |nil=>rfl
    |cons x A ih=>exact congrArg (_::·) ih
   rw[app,Pn (low _) hs]
   show H++ [o.Yb _]=_
   rw[ho]
  rw[er]
  refine YB.app (H1:=H.map (fun _=>AO.gone)++M) (Ub H [] M) (.cons ?_ .nil)
  rw[d9 (by simp)]
  simpa using hM
 ·show (fB 0 H.length++ [H.length+j]).take H.length=_
  rw[List.take_left' (by simp),List.range_eq_range']
 ·show AV.loc _=AV.loc (Mine.YN e _ H.length)
  rw[hi]
end
section
variable {G:Gm}
def ZZ (find:Int->Option Int) (nx:Int->Int):Nat->Int->Option Int->Option Int
 |0,_,last=>last
 |k+1,p,_=>match find p with|none=>none|some s=>ZZ find nx k (nx s) (some s)
abbrev W7 (p:Int):Prop:=0<=p/\p<=1000
abbrev CT:=Int×List AO×AV×List AO
abbrev CC (G:Gm) (n:Nat) (f:AV) (H:List AO) (x:CT):Prop:=Z5 G n f [.d (.int x.1)] (H++x.2.1) x.2.2.1 (H++x.2.2.2)
abbrev vF (G:Gm) (n:Nat) (f:AV) (H:List AO) (L:List CT) (Z:Prop):Prop:=L.foldr (fun x P=>CC G n f H x/\P) Z
theorem Lw {n:Nat}{f:AV}{H:List AO}{L:List CT}{Z:Prop}(h:vF G n f H L True) (z:Z):vF G n f H L Z:=by
 induction L with
 |nil=>exact z
 |cons x l ih=>exact⟨h.1,ih h.2⟩
abbrev jH (G:Gm) (n:Nat) (f:AV) (p c:Int) (H:List AO) (r:AV) (H':List AO):Prop:=Z5 G (n+1) (.Z8 (.ref 655)) [f,.d (.int p),.d (.int c)] H r H'
abbrev mQ (G:Gm) (n:Nat) (f:AV) (p c:Int) (H:List AO) (L:List CT) (r:AV) (H' E:List AO):Prop:=∀loc,vF G n f H L (Post loc r H' r ⟨loc,H'++E,[]⟩)=(ev G T0 40).c (n+1) 0 (.Z8 (.ref 655)) [f,.d (.int p),.d (.int c)] ⟨loc,H,L.map fun x=> .con 603 x.2.2.1 (H++x.2.2.2)⟩ (Post loc r H')
abbrev Ny (G:Gm) (n:Nat) (f:AV) (p c m:Int) (H:List AO) (K:Nat) (o:Option Int):Prop:=jH G n f p c H (Xv K o) (H++YE m o)
theorem Tp {n K:Nat}{f:AV}{p c m:Int}{H E:List AO}{o:Option Int}(L:List CT) (ho:o=none) (hT:ZY G T0) (hs:(gK H.length H.length && Y9 H.length H)=true) (e:mQ G n f p c H L (.d .none) H E) (q:vF G n f H L True):Ny G n f p c m H K o:=by
 subst ho
 refine(?_:Z5 G (n+1) _ _ H (.d .none) (H++ []))
 rw[gE]
 exact YY hT hs _ _ e fun loc=>Lw q (XG rfl)
theorem JJ {n K j:Nat}{f:AV}{p c m s:Int}{H M:List AO}{o:Option Int}(L:List CT) (ho:o=some s) (hT:ZY G T0) (hs:Y9 H.length H=true) (hM:Y9 (H++M).length M=true) (e:mQ G n f p c H L (.loc (H.length+j)) (H++M) []) (hj:M[j]?=some (Z9 s m)) (hl:(AV.loc (H.length+j)).sc (H++M).length=true) (q:vF G n f H L True) (hK:H.length=K):Ny G n f p c m H K o:=by
 subst ho hK
 exact Z5.tail (YY hT (VI hs hM) _ _ e fun loc=>Lw q (XG hl)) hs (fun r=>rfl) hj
abbrev ZF (l:List Int):AO:= .it false (l.map fun i=> .d (.int i))
abbrev hS (o0 o1 o2 o3 o4 o5 o6 o7 o8 o9:AO):List AO:= [o0,o1,o2,o3,o4,o5,o6,o7,o8,o9]
section
variable {n:Nat}{m p:Int}{o0 o1 o2 o3 o4 o5 o6 o7 o8 o9:AO}{ps:List Str}{be:Expr}{sc:gQ}{cx:List (Str×Nat)}{find:Int->Option Int}(hT:ZY G T0) (hs:Y9 10 (hS o0 o1 o2 o3 o4 o5 o6 o7 o8 o9)=true) (hcl:(AV.YV ps be sc cx).sc 10=true) (hp:W7 p) (hn:∀p s,W7 p->find p=some s->W7 (s+m))
 (hc:∀p,W7 p->Z5 G n (.YV ps be sc cx) [.d (.int p)] (hS o0 o1 o2 o3 o4 o5 o6 o7 o8 o9) (Xv 10 (find p)) (hS o0 o1 o2 o3 o4 o5 o6 o7 o8 o9++YE m (find p)))
section
include hT hs hcl hp hn hc
theorem Hi:Ny G n (.YV ps be sc cx) p 1 m (hS o0 o1 o2 o3 o4 o5 o6 o7 o8 o9) 10 (ZZ find (fun s=>s+m) 1 p none):=by
 let H:=hS o0 o1 o2 o3 o4 o5 o6 o7 o8 o9
 have XT:(Y9 10 H && ((AV.YV ps be sc cx).sc 10 && true))=true:=by rw[hs,hcl];rfl
 have c1:=hc _ hp
 cases e1:find p with
 |none=>
  rw[e1] at c1
  exact Tp (E:= [ZF []]) [(p,[ZF []],.d .none,[ZF []])] (by simp only[ZZ,e1]) hT (ZL (by rfl') hs) (fun loc=>by rfl') ⟨Z5.ext (H:=H) (N:= []) (E:= [ZF []]) (r:= .d .none) c1 XT (by rfl'),trivial⟩
 |some s1=>
  rw[e1] at c1
  let x1:CT:=(p,[ZF []],.loc 11,[ZF [],Z9 s1 m])
  have d1:CC G n (.YV ps be sc cx) H x1:=Z5.ext (H:=H) (N:= [Z9 s1 m]) (E:= [ZF []]) (r:= .loc 10) c1 XT (by rfl')
  exact JJ (M:= [.gone,Z9 s1 m]) (j:=1) [x1] (by simp only[ZZ,e1]) hT hs (by rfl') (fun loc=>by rfl') rfl (by rfl') ⟨d1,trivial⟩ rfl
theorem Hf:Ny G n (.YV ps be sc cx) p 2 m (hS o0 o1 o2 o3 o4 o5 o6 o7 o8 o9) 10 (ZZ find (fun s=>s+m) 2 p none):=by
 let H:=hS o0 o1 o2 o3 o4 o5 o6 o7 o8 o9
 have XT:(Y9 10 H && ((AV.YV ps be sc cx).sc 10 && true))=true:=by rw[hs,hcl];rfl
 have c1:=hc _ hp
 cases e1:find p with
 |none=>
  rw[e1] at c1
  exact Tp (E:= [ZF [1]]) [(p,[ZF [1]],.d .none,[ZF [1]])] (by simp only[ZZ,e1]) hT (ZL (by rfl') hs) (fun loc=>by rfl') ⟨Z5.ext (H:=H) (N:= []) (E:= [ZF [1]]) (r:= .d .none) c1 XT (by rfl'),trivial⟩
 |some s1=>
  rw[e1] at c1
  let x1:CT:=(p,[ZF [1]],.loc 11,[ZF [1],Z9 s1 m])
  have d1:CC G n (.YV ps be sc cx) H x1:=Z5.ext (H:=H) (N:= [Z9 s1 m]) (E:= [ZF [1]]) (r:= .loc 10) c1 XT (by rfl')
  have q2:W7 (s1+m):=hn _ _ hp e1
  have c2:=hc _ q2
  cases e2:find (s1+m) with
  |none=>
   rw[e2] at c2
   exact Tp (E:= [ZF [],Z9 s1 m]) [x1,(s1+m,[ZF [],Z9 s1 m],.d .none,[ZF [],Z9 s1 m])] (by simp only[ZZ,e1,e2]) hT (ZL (by rfl') hs) (fun loc=>by rfl') ⟨d1,Z5.ext (H:=H) (N:= []) (E:= [ZF [],Z9 s1 m]) (r:= .d .none) c2 XT (by rfl'),trivial⟩
  |some s2=>
   rw[e2] at c2
   let x2:CT:=(s1+m,[ZF [],Z9 s1 m],.loc 12,[ZF [],Z9 s1 m,Z9 s2 m])
   have d2:CC G n (.YV ps be sc cx) H x2:=Z5.ext (H:=H) (N:= [Z9 s2 m]) (E:= [ZF [],Z9 s1 m]) (r:= .loc 10) c2 XT (by rfl')
   exact JJ (M:= [.gone,Z9 s1 m,Z9 s2 m]) (j:=2) [x1,x2] (by simp only[ZZ,e1,e2]) hT hs (by rfl') (fun loc=>by rfl') rfl (by rfl') ⟨d1,d2,trivial⟩ rfl
theorem G_:Ny G n (.YV ps be sc cx) p 3 m (hS o0 o1 o2 o3 o4 o5 o6 o7 o8 o9) 10 (ZZ find (fun s=>s+m) 3 p none):=by
 let H:=hS o0 o1 o2 o3 o4 o5 o6 o7 o8 o9
 have XT:(Y9 10 H && ((AV.YV ps be sc cx).sc 10 && true))=true:=by rw[hs,hcl];rfl
 have c1:=hc _ hp
 cases e1:find p with
 |none=>
  rw[e1] at c1
  exact Tp (E:= [ZF [1,2]]) [(p,[ZF [1,2]],.d .none,[ZF [1,2]])] (by simp only[ZZ,e1]) hT (ZL (by rfl') hs) (fun loc=>by rfl') ⟨Z5.ext (H:=H) (N:= []) (E:= [ZF [1,2]]) (r:= .d .none) c1 XT (by rfl'),trivial⟩
 |some s1=>
  rw[e1] at c1
  let x1:CT:=(p,[ZF [1,2]],.loc 11,[ZF [1,2],Z9 s1 m])
  have d1:CC G n (.YV ps be sc cx) H x1:=Z5.ext (H:=H) (N:= [Z9 s1 m]) (E:= [ZF [1,2]]) (r:= .loc 10) c1 XT (by rfl')
  have q2:W7 (s1+m):=hn _ _ hp e1
  have c2:=hc _ q2
  cases e2:find (s1+m) with
  |none=>
   rw[e2] at c2
   exact Tp (E:= [ZF [2],Z9 s1 m]) [x1,(s1+m,[ZF [2],Z9 s1 m],.d .none,[ZF [2],Z9 s1 m])] (by simp only[ZZ,e1,e2]) hT (ZL (by rfl') hs) (fun loc=>by rfl') ⟨d1,Z5.ext (H:=H) (N:= []) (E:= [ZF [2],Z9 s1 m]) (r:= .d .none) c2 XT (by rfl'),trivial⟩
  |some s2=>
   rw[e2] at c2
   let x2:CT:=(s1+m,[ZF [2],Z9 s1 m],.loc 12,[ZF [2],Z9 s1 m,Z9 s2 m])
   have d2:CC G n (.YV ps be sc cx) H x2:=Z5.ext (H:=H) (N:= [Z9 s2 m]) (E:= [ZF [2],Z9 s1 m]) (r:= .loc 10) c2 XT (by rfl')
   have q3:W7 (s2+m):=hn _ _ q2 e2
   have c3:=hc _ q3
   cases e3:find (s2+m) with
   |none=>
    rw[e3] at c3
    exact Tp (E:= [ZF [],Z9 s1 m,Z9 s2 m]) [x1,x2,(s2+m,[ZF [],Z9 s1 m,Z9 s2 m],.d .none,[ZF [],Z9 s1 m,Z9 s2 m])] (by simp only[ZZ,e1,e2,e3]) hT (ZL (by rfl') hs) (fun loc=>by rfl') ⟨d1,d2,Z5.ext (H:=H) (N:= []) (E:= [ZF [],Z9 s1 m,Z9 s2 m]) (r:= .d .none) c3 XT (by rfl'),trivial⟩
   |some s3=>
    rw[e3] at c3
    let x3:CT:=(s2+m,[ZF [],Z9 s1 m,Z9 s2 m],.loc 13,[ZF [],Z9 s1 m,Z9 s2 m,Z9 s3 m])
    have d3:CC G n (.YV ps be sc cx) H x3:=Z5.ext (H:=H) (N:= [Z9 s3 m]) (E:= [ZF [],Z9 s1 m,Z9 s2 m]) (r:= .loc 10) c3 XT (by rfl')
    exact JJ (M:= [.gone,Z9 s1 m,Z9 s2 m,Z9 s3 m]) (j:=3) [x1,x2,x3] (by simp only[ZZ,e1,e2,e3]) hT hs (by rfl') (fun loc=>by rfl') rfl (by rfl') ⟨d1,d2,d3,trivial⟩ rfl
end
end
section
variable {n:Nat}{m p:Int}{o0 o1 o2 o3 o4 o5 o6 o7 o8 o9:AO}{ps:List Str}{be:Expr}{sc:gQ}{cx:List (Str×Nat)}{find:Int->Option Int}(hT:ZY G T0) (hs:Y9 10 (hS o0 o1 o2 o3 o4 o5 o6 o7 o8 o9)=true) (hcl:(AV.YV ps be sc cx).sc 10=true) (hp:W7 p) (hn:∀p s,W7 p->find p=some s->W7 (s))
 (hc:∀p,W7 p->Z5 G n (.YV ps be sc cx) [.d (.int p)] (hS o0 o1 o2 o3 o4 o5 o6 o7 o8 o9) (Xv 10 (find p)) (hS o0 o1 o2 o3 o4 o5 o6 o7 o8 o9++YE m (find p)))
section
include hT hs hcl hp hn hc
theorem G9:Ny G n (.YV ps be sc cx) p 0 m (hS o0 o1 o2 o3 o4 o5 o6 o7 o8 o9) 10 (ZZ find (fun s=>s) 0 p none):=by
 exact Tp (E:= [.gone]) [] rfl hT (ZL (by rfl') hs) (fun loc=>by rfl') trivial
theorem G8:Ny G n (.YV ps be sc cx) p (-1) m (hS o0 o1 o2 o3 o4 o5 o6 o7 o8 o9) 10 (ZZ find (fun s=>s) 1 p none):=by
 let H:=hS o0 o1 o2 o3 o4 o5 o6 o7 o8 o9
 have XT:(Y9 10 H && ((AV.YV ps be sc cx).sc 10 && true))=true:=by rw[hs,hcl];rfl
 have c1:=hc _ hp
 cases e1:find p with
 |none=>
  rw[e1] at c1
  exact Tp (E:= [ZF []]) [(p,[ZF []],.d .none,[ZF []])] (by simp only[ZZ,e1]) hT (ZL (by rfl') hs) (fun loc=>by rfl') ⟨Z5.ext (H:=H) (N:= []) (E:= [ZF []]) (r:= .d .none) c1 XT (by rfl'),trivial⟩
 |some s1=>
  rw[e1] at c1
  let x1:CT:=(p,[ZF []],.loc 11,[ZF [],Z9 s1 m])
  have d1:CC G n (.YV ps be sc cx) H x1:=Z5.ext (H:=H) (N:= [Z9 s1 m]) (E:= [ZF []]) (r:= .loc 10) c1 XT (by rfl')
  exact JJ (M:= [.gone,Z9 s1 m]) (j:=1) [x1] (by simp only[ZZ,e1]) hT hs (by rfl') (fun loc=>by rfl') rfl (by rfl') ⟨d1,trivial⟩ rfl
theorem G7:Ny G n (.YV ps be sc cx) p (-2) m (hS o0 o1 o2 o3 o4 o5 o6 o7 o8 o9) 10 (ZZ find (fun s=>s) 2 p none):=by
 let H:=hS o0 o1 o2 o3 o4 o5 o6 o7 o8 o9
 have XT:(Y9 10 H && ((AV.YV ps be sc cx).sc 10 && true))=true:=by rw[hs,hcl];rfl
 have c1:=hc _ hp
 cases e1:find p with
 |none=>
  rw[e1] at c1
  exact Tp (E:= [ZF [1]]) [(p,[ZF [1]],.d .none,[ZF [1]])] (by simp only[ZZ,e1]) hT (ZL (by rfl') hs) (fun loc=>by rfl') ⟨Z5.ext (H:=H) (N:= []) (E:= [ZF [1]]) (r:= .d .none) c1 XT (by rfl'),trivial⟩
 |some s1=>
  rw[e1] at c1
  let x1:CT:=(p,[ZF [1]],.loc 11,[ZF [1],Z9 s1 m])
  have d1:CC G n (.YV ps be sc cx) H x1:=Z5.ext (H:=H) (N:= [Z9 s1 m]) (E:= [ZF [1]]) (r:= .loc 10) c1 XT (by rfl')
  have q2:W7 (s1):=hn _ _ hp e1
  have c2:=hc _ q2
  cases e2:find (s1) with
  |none=>
   rw[e2] at c2
   exact Tp (E:= [ZF [],Z9 s1 m]) [x1,(s1,[ZF [],Z9 s1 m],.d .none,[ZF [],Z9 s1 m])] (by simp only[ZZ,e1,e2]) hT (ZL (by rfl') hs) (fun loc=>by rfl') ⟨d1,Z5.ext (H:=H) (N:= []) (E:= [ZF [],Z9 s1 m]) (r:= .d .none) c2 XT (by rfl'),trivial⟩
  |some s2=>
   rw[e2] at c2
   let x2:CT:=(s1,[ZF [],Z9 s1 m],.loc 12,[ZF [],Z9 s1 m,Z9 s2 m])
   have d2:CC G n (.YV ps be sc cx) H x2:=Z5.ext (H:=H) (N:= [Z9 s2 m]) (E:= [ZF [],Z9 s1 m]) (r:= .loc 10) c2 XT (by rfl')
   exact JJ (M:= [.gone,Z9 s1 m,Z9 s2 m]) (j:=2) [x1,x2] (by simp only[ZZ,e1,e2]) hT hs (by rfl') (fun loc=>by rfl') rfl (by rfl') ⟨d1,d2,trivial⟩ rfl
theorem G6:Ny G n (.YV ps be sc cx) p (-3) m (hS o0 o1 o2 o3 o4 o5 o6 o7 o8 o9) 10 (ZZ find (fun s=>s) 3 p none):=by
 let H:=hS o0 o1 o2 o3 o4 o5 o6 o7 o8 o9
 have XT:(Y9 10 H && ((AV.YV ps be sc cx).sc 10 && true))=true:=by rw[hs,hcl];rfl
 have c1:=hc _ hp
 cases e1:find p with
 |none=>
  rw[e1] at c1
  exact Tp (E:= [ZF [1,2]]) [(p,[ZF [1,2]],.d .none,[ZF [1,2]])] (by simp only[ZZ,e1]) hT (ZL (by rfl') hs) (fun loc=>by rfl') ⟨Z5.ext (H:=H) (N:= []) (E:= [ZF [1,2]]) (r:= .d .none) c1 XT (by rfl'),trivial⟩
 |some s1=>
  rw[e1] at c1
  let x1:CT:=(p,[ZF [1,2]],.loc 11,[ZF [1,2],Z9 s1 m])
  have d1:CC G n (.YV ps be sc cx) H x1:=Z5.ext (H:=H) (N:= [Z9 s1 m]) (E:= [ZF [1,2]]) (r:= .loc 10) c1 XT (by rfl')
  have q2:W7 (s1):=hn _ _ hp e1
  have c2:=hc _ q2
  cases e2:find (s1) with
  |none=>
   rw[e2] at c2
   exact Tp (E:= [ZF [2],Z9 s1 m]) [x1,(s1,[ZF [2],Z9 s1 m],.d .none,[ZF [2],Z9 s1 m])] (by simp only[ZZ,e1,e2]) hT (ZL (by rfl') hs) (fun loc=>by rfl') ⟨d1,Z5.ext (H:=H) (N:= []) (E:= [ZF [2],Z9 s1 m]) (r:= .d .none) c2 XT (by rfl'),trivial⟩
  |some s2=>
   rw[e2] at c2
   let x2:CT:=(s1,[ZF [2],Z9 s1 m],.loc 12,[ZF [2],Z9 s1 m,Z9 s2 m])
   have d2:CC G n (.YV ps be sc cx) H x2:=Z5.ext (H:=H) (N:= [Z9 s2 m]) (E:= [ZF [2],Z9 s1 m]) (r:= .loc 10) c2 XT (by rfl')
   have q3:W7 (s2):=hn _ _ q2 e2
   have c3:=hc _ q3
   cases e3:find (s2) with
   |none=>
    rw[e3] at c3
    exact Tp (E:= [ZF [],Z9 s1 m,Z9 s2 m]) [x1,x2,(s2,[ZF [],Z9 s1 m,Z9 s2 m],.d .none,[ZF [],Z9 s1 m,Z9 s2 m])] (by simp only[ZZ,e1,e2,e3]) hT (ZL (by rfl') hs) (fun loc=>by rfl') ⟨d1,d2,Z5.ext (H:=H) (N:= []) (E:= [ZF [],Z9 s1 m,Z9 s2 m]) (r:= .d .none) c3 XT (by rfl'),trivial⟩
   |some s3=>
    rw[e3] at c3
    let x3:CT:=(s2,[ZF [],Z9 s1 m,Z9 s2 m],.loc 13,[ZF [],Z9 s1 m,Z9 s2 m,Z9 s3 m])
    have d3:CC G n (.YV ps be sc cx) H x3:=Z5.ext (H:=H) (N:= [Z9 s3 m]) (E:= [ZF [],Z9 s1 m,Z9 s2 m]) (r:= .loc 10) c3 XT (by rfl')
    exact JJ (M:= [.gone,Z9 s1 m,Z9 s2 m,Z9 s3 m]) (j:=3) [x1,x2,x3] (by simp only[ZZ,e1,e2,e3]) hT hs (by rfl') (fun loc=>by rfl') rfl (by rfl') ⟨d1,d2,d3,trivial⟩ rfl
end
end
abbrev hO (o0 o1 o2 o3 o4 o5 o6 o7 o8 o9 Rf Rd Rc:AO):List AO:= [o0,o1,o2,o3,o4,o5,o6,o7,o8,o9,Rf,Rd,Rc]
section
variable {n:Nat}{m p:Int}{o0 o1 o2 o3 o4 o5 o6 o7 o8 o9 Rf Rd Rc:AO}{ps:List Str}{be:Expr}{sc:gQ}{cx:List (Str×Nat)}{find:Int->Option Int}(hT:ZY G T0) (hs:Y9 13 (hO o0 o1 o2 o3 o4 o5 o6 o7 o8 o9 Rf Rd Rc)=true) (hcl:(AV.YV ps be sc cx).sc 13=true) (hp:W7 p) (hn:∀p s,W7 p->find p=some s->W7 (s+m))
 (hc:∀p,W7 p->Z5 G n (.YV ps be sc cx) [.d (.int p)] (hO o0 o1 o2 o3 o4 o5 o6 o7 o8 o9 Rf Rd Rc) (Xv 13 (find p)) (hO o0 o1 o2 o3 o4 o5 o6 o7 o8 o9 Rf Rd Rc++YE m (find p)))
section
include hT hs hcl hp hn hc
theorem G5:Ny G n (.YV ps be sc cx) p 1 m (hO o0 o1 o2 o3 o4 o5 o6 o7 o8 o9 Rf Rd Rc) 13 (ZZ find (fun s=>s+m) 1 p none):=by
 let H:=hO o0 o1 o2 o3 o4 o5 o6 o7 o8 o9 Rf Rd Rc
 have XT:(Y9 13 H && ((AV.YV ps be sc cx).sc 13 && true))=true:=by rw[hs,hcl];rfl
 have c1:=hc _ hp
 cases e1:find p with
 |none=>
  rw[e1] at c1
  exact Tp (E:= [ZF []]) [(p,[ZF []],.d .none,[ZF []])] (by simp only[ZZ,e1]) hT (ZL (by rfl') hs) (fun loc=>by rfl') ⟨Z5.ext (H:=H) (N:= []) (E:= [ZF []]) (r:= .d .none) c1 XT (by rfl'),trivial⟩
 |some s1=>
  rw[e1] at c1
  let x1:CT:=(p,[ZF []],.loc 14,[ZF [],Z9 s1 m])
  have d1:CC G n (.YV ps be sc cx) H x1:=Z5.ext (H:=H) (N:= [Z9 s1 m]) (E:= [ZF []]) (r:= .loc 13) c1 XT (by rfl')
  exact JJ (M:= [.gone,Z9 s1 m]) (j:=1) [x1] (by simp only[ZZ,e1]) hT hs (by rfl') (fun loc=>by rfl') rfl (by rfl') ⟨d1,trivial⟩ rfl
theorem G4:Ny G n (.YV ps be sc cx) p 2 m (hO o0 o1 o2 o3 o4 o5 o6 o7 o8 o9 Rf Rd Rc) 13 (ZZ find (fun s=>s+m) 2 p none):=by
 let H:=hO o0 o1 o2 o3 o4 o5 o6 o7 o8 o9 Rf Rd Rc
 have XT:(Y9 13 H && ((AV.YV ps be sc cx).sc 13 && true))=true:=by rw[hs,hcl];rfl
 have c1:=hc _ hp
 cases e1:find p with
 |none=>
  rw[e1] at c1
  exact Tp (E:= [ZF [1]]) [(p,[ZF [1]],.d .none,[ZF [1]])] (by simp only[ZZ,e1]) hT (ZL (by rfl') hs) (fun loc=>by rfl') ⟨Z5.ext (H:=H) (N:= []) (E:= [ZF [1]]) (r:= .d .none) c1 XT (by rfl'),trivial⟩
 |some s1=>
  rw[e1] at c1
  let x1:CT:=(p,[ZF [1]],.loc 14,[ZF [1],Z9 s1 m])
  have d1:CC G n (.YV ps be sc cx) H x1:=Z5.ext (H:=H) (N:= [Z9 s1 m]) (E:= [ZF [1]]) (r:= .loc 13) c1 XT (by rfl')
  have q2:W7 (s1+m):=hn _ _ hp e1
  have c2:=hc _ q2
  cases e2:find (s1+m) with
  |none=>
   rw[e2] at c2
   exact Tp (E:= [ZF [],Z9 s1 m]) [x1,(s1+m,[ZF [],Z9 s1 m],.d .none,[ZF [],Z9 s1 m])] (by simp only[ZZ,e1,e2]) hT (ZL (by rfl') hs) (fun loc=>by rfl') ⟨d1,Z5.ext (H:=H) (N:= []) (E:= [ZF [],Z9 s1 m]) (r:= .d .none) c2 XT (by rfl'),trivial⟩
  |some s2=>
   rw[e2] at c2
   let x2:CT:=(s1+m,[ZF [],Z9 s1 m],.loc 15,[ZF [],Z9 s1 m,Z9 s2 m])
   have d2:CC G n (.YV ps be sc cx) H x2:=Z5.ext (H:=H) (N:= [Z9 s2 m]) (E:= [ZF [],Z9 s1 m]) (r:= .loc 13) c2 XT (by rfl')
   exact JJ (M:= [.gone,Z9 s1 m,Z9 s2 m]) (j:=2) [x1,x2] (by simp only[ZZ,e1,e2]) hT hs (by rfl') (fun loc=>by rfl') rfl (by rfl') ⟨d1,d2,trivial⟩ rfl
theorem G3:Ny G n (.YV ps be sc cx) p 3 m (hO o0 o1 o2 o3 o4 o5 o6 o7 o8 o9 Rf Rd Rc) 13 (ZZ find (fun s=>s+m) 3 p none):=by
 let H:=hO o0 o1 o2 o3 o4 o5 o6 o7 o8 o9 Rf Rd Rc
 have XT:(Y9 13 H && ((AV.YV ps be sc cx).sc 13 && true))=true:=by rw[hs,hcl];rfl
 have c1:=hc _ hp
 cases e1:find p with
 |none=>
  rw[e1] at c1
  exact Tp (E:= [ZF [1,2]]) [(p,[ZF [1,2]],.d .none,[ZF [1,2]])] (by simp only[ZZ,e1]) hT (ZL (by rfl') hs) (fun loc=>by rfl') ⟨Z5.ext (H:=H) (N:= []) (E:= [ZF [1,2]]) (r:= .d .none) c1 XT (by rfl'),trivial⟩
 |some s1=>
  rw[e1] at c1
  let x1:CT:=(p,[ZF [1,2]],.loc 14,[ZF [1,2],Z9 s1 m])
  have d1:CC G n (.YV ps be sc cx) H x1:=Z5.ext (H:=H) (N:= [Z9 s1 m]) (E:= [ZF [1,2]]) (r:= .loc 13) c1 XT (by rfl')
  have q2:W7 (s1+m):=hn _ _ hp e1
  have c2:=hc _ q2
  cases e2:find (s1+m) with
  |none=>
   rw[e2] at c2
   exact Tp (E:= [ZF [2],Z9 s1 m]) [x1,(s1+m,[ZF [2],Z9 s1 m],.d .none,[ZF [2],Z9 s1 m])] (by simp only[ZZ,e1,e2]) hT (ZL (by rfl') hs) (fun loc=>by rfl') ⟨d1,Z5.ext (H:=H) (N:= []) (E:= [ZF [2],Z9 s1 m]) (r:= .d .none) c2 XT (by rfl'),trivial⟩
  |some s2=>
   rw[e2] at c2
   let x2:CT:=(s1+m,[ZF [2],Z9 s1 m],.loc 15,[ZF [2],Z9 s1 m,Z9 s2 m])
   have d2:CC G n (.YV ps be sc cx) H x2:=Z5.ext (H:=H) (N:= [Z9 s2 m]) (E:= [ZF [2],Z9 s1 m]) (r:= .loc 13) c2 XT (by rfl')
   have q3:W7 (s2+m):=hn _ _ q2 e2
   have c3:=hc _ q3
   cases e3:find (s2+m) with
   |none=>
    rw[e3] at c3
    exact Tp (E:= [ZF [],Z9 s1 m,Z9 s2 m]) [x1,x2,(s2+m,[ZF [],Z9 s1 m,Z9 s2 m],.d .none,[ZF [],Z9 s1 m,Z9 s2 m])] (by simp only[ZZ,e1,e2,e3]) hT (ZL (by rfl') hs) (fun loc=>by rfl') ⟨d1,d2,Z5.ext (H:=H) (N:= []) (E:= [ZF [],Z9 s1 m,Z9 s2 m]) (r:= .d .none) c3 XT (by rfl'),trivial⟩
   |some s3=>
    rw[e3] at c3
    let x3:CT:=(s2+m,[ZF [],Z9 s1 m,Z9 s2 m],.loc 16,[ZF [],Z9 s1 m,Z9 s2 m,Z9 s3 m])
    have d3:CC G n (.YV ps be sc cx) H x3:=Z5.ext (H:=H) (N:= [Z9 s3 m]) (E:= [ZF [],Z9 s1 m,Z9 s2 m]) (r:= .loc 13) c3 XT (by rfl')
    exact JJ (M:= [.gone,Z9 s1 m,Z9 s2 m,Z9 s3 m]) (j:=3) [x1,x2,x3] (by simp only[ZZ,e1,e2,e3]) hT hs (by rfl') (fun loc=>by rfl') rfl (by rfl') ⟨d1,d2,d3,trivial⟩ rfl
end
end
section
variable {n:Nat}{m p:Int}{o0 o1 o2 o3 o4 o5 o6 o7 o8 o9 Rf Rd Rc:AO}{ps:List Str}{be:Expr}{sc:gQ}{cx:List (Str×Nat)}{find:Int->Option Int}(hT:ZY G T0) (hs:Y9 13 (hO o0 o1 o2 o3 o4 o5 o6 o7 o8 o9 Rf Rd Rc)=true) (hcl:(AV.YV ps be sc cx).sc 13=true) (hp:W7 p) (hn:∀p s,W7 p->find p=some s->W7 (s))
 (hc:∀p,W7 p->Z5 G n (.YV ps be sc cx) [.d (.int p)] (hO o0 o1 o2 o3 o4 o5 o6 o7 o8 o9 Rf Rd Rc) (Xv 13 (find p)) (hO o0 o1 o2 o3 o4 o5 o6 o7 o8 o9 Rf Rd Rc++YE m (find p)))
section
include hT hs hcl hp hn hc
theorem G2:Ny G n (.YV ps be sc cx) p 0 m (hO o0 o1 o2 o3 o4 o5 o6 o7 o8 o9 Rf Rd Rc) 13 (ZZ find (fun s=>s) 0 p none):=by
 exact Tp (E:= [.gone]) [] rfl hT (ZL (by rfl') hs) (fun loc=>by rfl') trivial
theorem G1:Ny G n (.YV ps be sc cx) p (-1) m (hO o0 o1 o2 o3 o4 o5 o6 o7 o8 o9 Rf Rd Rc) 13 (ZZ find (fun s=>s) 1 p none):=by
 let H:=hO o0 o1 o2 o3 o4 o5 o6 o7 o8 o9 Rf Rd Rc
 have XT:(Y9 13 H && ((AV.YV ps be sc cx).sc 13 && true))=true:=by rw[hs,hcl];rfl
 have c1:=hc _ hp
 cases e1:find p with
 |none=>
  rw[e1] at c1
  exact Tp (E:= [ZF []]) [(p,[ZF []],.d .none,[ZF []])] (by simp only[ZZ,e1]) hT (ZL (by rfl') hs) (fun loc=>by rfl') ⟨Z5.ext (H:=H) (N:= []) (E:= [ZF []]) (r:= .d .none) c1 XT (by rfl'),trivial⟩
 |some s1=>
  rw[e1] at c1
  let x1:CT:=(p,[ZF []],.loc 14,[ZF [],Z9 s1 m])
  have d1:CC G n (.YV ps be sc cx) H x1:=Z5.ext (H:=H) (N:= [Z9 s1 m]) (E:= [ZF []]) (r:= .loc 13) c1 XT (by rfl')
  exact JJ (M:= [.gone,Z9 s1 m]) (j:=1) [x1] (by simp only[ZZ,e1]) hT hs (by rfl') (fun loc=>by rfl') rfl (by rfl') ⟨d1,trivial⟩ rfl
theorem G0:Ny G n (.YV ps be sc cx) p (-2) m (hO o0 o1 o2 o3 o4 o5 o6 o7 o8 o9 Rf Rd Rc) 13 (ZZ find (fun s=>s) 2 p none):=by
 let H:=hO o0 o1 o2 o3 o4 o5 o6 o7 o8 o9 Rf Rd Rc
 have XT:(Y9 13 H && ((AV.YV ps be sc cx).sc 13 && true))=true:=by rw[hs,hcl];rfl
 have c1:=hc _ hp
 cases e1:find p with
 |none=>
  rw[e1] at c1
  exact Tp (E:= [ZF [1]]) [(p,[ZF [1]],.d .none,[ZF [1]])] (by simp only[ZZ,e1]) hT (ZL (by rfl') hs) (fun loc=>by rfl') ⟨Z5.ext (H:=H) (N:= []) (E:= [ZF [1]]) (r:= .d .none) c1 XT (by rfl'),trivial⟩
 |some s1=>
  rw[e1] at c1
  let x1:CT:=(p,[ZF [1]],.loc 14,[ZF [1],Z9 s1 m])
  have d1:CC G n (.YV ps be sc cx) H x1:=Z5.ext (H:=H) (N:= [Z9 s1 m]) (E:= [ZF [1]]) (r:= .loc 13) c1 XT (by rfl')
  have q2:W7 (s1):=hn _ _ hp e1
  have c2:=hc _ q2
  cases e2:find (s1) with
  |none=>
   rw[e2] at c2
   exact Tp (E:= [ZF [],Z9 s1 m]) [x1,(s1,[ZF [],Z9 s1 m],.d .none,[ZF [],Z9 s1 m])] (by simp only[ZZ,e1,e2]) hT (ZL (by rfl') hs) (fun loc=>by rfl') ⟨d1,Z5.ext (H:=H) (N:= []) (E:= [ZF [],Z9 s1 m]) (r:= .d .none) c2 XT (by rfl'),trivial⟩
  |some s2=>
   rw[e2] at c2
   let x2:CT:=(s1,[ZF [],Z9 s1 m],.loc 15,[ZF [],Z9 s1 m,Z9 s2 m])
   have d2:CC G n (.YV ps be sc cx) H x2:=Z5.ext (H:=H) (N:= [Z9 s2 m]) (E:= [ZF [],Z9 s1 m]) (r:= .loc 13) c2 XT (by rfl')
   exact JJ (M:= [.gone,Z9 s1 m,Z9 s2 m]) (j:=2) [x1,x2] (by simp only[ZZ,e1,e2]) hT hs (by rfl') (fun loc=>by rfl') rfl (by rfl') ⟨d1,d2,trivial⟩ rfl
theorem GZ:Ny G n (.YV ps be sc cx) p (-3) m (hO o0 o1 o2 o3 o4 o5 o6 o7 o8 o9 Rf Rd Rc) 13 (ZZ find (fun s=>s) 3 p none):=by
 let H:=hO o0 o1 o2 o3 o4 o5 o6 o7 o8 o9 Rf Rd Rc
 have XT:(Y9 13 H && ((AV.YV ps be sc cx).sc 13 && true))=true:=by rw[hs,hcl];rfl
 have c1:=hc _ hp
 cases e1:find p with
 |none=>
  rw[e1] at c1
  exact Tp (E:= [ZF [1,2]]) [(p,[ZF [1,2]],.d .none,[ZF [1,2]])] (by simp only[ZZ,e1]) hT (ZL (by rfl') hs) (fun loc=>by rfl') ⟨Z5.ext (H:=H) (N:= []) (E:= [ZF [1,2]]) (r:= .d .none) c1 XT (by rfl'),trivial⟩
 |some s1=>
  rw[e1] at c1
  let x1:CT:=(p,[ZF [1,2]],.loc 14,[ZF [1,2],Z9 s1 m])
  have d1:CC G n (.YV ps be sc cx) H x1:=Z5.ext (H:=H) (N:= [Z9 s1 m]) (E:= [ZF [1,2]]) (r:= .loc 13) c1 XT (by rfl')
  have q2:W7 (s1):=hn _ _ hp e1
  have c2:=hc _ q2
  cases e2:find (s1) with
  |none=>
   rw[e2] at c2
   exact Tp (E:= [ZF [2],Z9 s1 m]) [x1,(s1,[ZF [2],Z9 s1 m],.d .none,[ZF [2],Z9 s1 m])] (by simp only[ZZ,e1,e2]) hT (ZL (by rfl') hs) (fun loc=>by rfl') ⟨d1,Z5.ext (H:=H) (N:= []) (E:= [ZF [2],Z9 s1 m]) (r:= .d .none) c2 XT (by rfl'),trivial⟩
  |some s2=>
   rw[e2] at c2
   let x2:CT:=(s1,[ZF [2],Z9 s1 m],.loc 15,[ZF [2],Z9 s1 m,Z9 s2 m])
   have d2:CC G n (.YV ps be sc cx) H x2:=Z5.ext (H:=H) (N:= [Z9 s2 m]) (E:= [ZF [2],Z9 s1 m]) (r:= .loc 13) c2 XT (by rfl')
   have q3:W7 (s2):=hn _ _ q2 e2
   have c3:=hc _ q3
   cases e3:find (s2) with
   |none=>
    rw[e3] at c3
    exact Tp (E:= [ZF [],Z9 s1 m,Z9 s2 m]) [x1,x2,(s2,[ZF [],Z9 s1 m,Z9 s2 m],.d .none,[ZF [],Z9 s1 m,Z9 s2 m])] (by simp only[ZZ,e1,e2,e3]) hT (ZL (by rfl') hs) (fun loc=>by rfl') ⟨d1,d2,Z5.ext (H:=H) (N:= []) (E:= [ZF [],Z9 s1 m,Z9 s2 m]) (r:= .d .none) c3 XT (by rfl'),trivial⟩
   |some s3=>
    rw[e3] at c3
    let x3:CT:=(s2,[ZF [],Z9 s1 m,Z9 s2 m],.loc 16,[ZF [],Z9 s1 m,Z9 s2 m,Z9 s3 m])
    have d3:CC G n (.YV ps be sc cx) H x3:=Z5.ext (H:=H) (N:= [Z9 s3 m]) (E:= [ZF [],Z9 s1 m,Z9 s2 m]) (r:= .loc 13) c3 XT (by rfl')
    exact JJ (M:= [.gone,Z9 s1 m,Z9 s2 m,Z9 s3 m]) (j:=3) [x1,x2,x3] (by simp only[ZZ,e1,e2,e3]) hT hs (by rfl') (fun loc=>by rfl') rfl (by rfl') ⟨d1,d2,d3,trivial⟩ rfl
end
end
abbrev ed (mb:AO):List AO:= [.tab 820 "search_by.<locals>.<lambda>",AL 9 12 13 18 14 15 16 17,AK 10 11,.dict [(1,.loc 0)],.Z_ [1],.dict [],.Z_ [],.dict [],.dict [],.inst 1340 [("sort",.d (.str "")),("many",.d (.int 0))],.Z_ [],mb]
abbrev V7 (l:List AV):AO:= .mb 1571 "spans" l
abbrev AG (j:Nat):AO:= .inst 1571 [("spans",.loc j)]
abbrev Zm (l:List AV):Prop:=∀k,(l.all fun x=>x.sc k)=true
theorem Od {K:Nat}{A B:List AO}{l:List AV}(hl:Zm l) (h:(Y9 K A && Y9 K B)=true):Y9 K (A++ .list l::B)=true:=by
 obtain ⟨h1,h2⟩:=g6.mp h
 unfold Y9 at*
 rw[bJ,fP,h1,h2]
 have:(AO.list l).sc K=true:=hl K
 rw[this];rfl
theorem AF {K:Nat}{A B:List AO}{l:List AV}(hl:Zm l) (h:(Y9 K A && Y9 K B)=true):Y9 K (A++V7 l::B)=true:=by
 obtain ⟨h1,h2⟩:=g6.mp h
 unfold Y9 at*
 rw[bJ,fP,h1,h2]
 have:(V7 l).sc K=true:=hl K
 rw[this];rfl
theorem vE {n:Nat}{k:Int}{us ws:List Int}{pt s:Int}{q:BB}{l:List AV}(hT:ZY G T0) (hl:Zm l)
  (ha:Z5 G (n+8) (.Z8 (.ref 655)) [Pp 7 9 8,.d (.int pt),.d (.int k)] (hcl pt q ws q.zv) (.loc 10) (hcl pt q ws q.zv++ [Z9 s ws.length])) (hk:decide (0<k)=true) (hk2:(!decide (k=0))=true):
  Z5 G (n+9) (.Z8 (.ref 825)) [.loc 8,.loc 6,.d (.int k)] (Ym pt q ws++ed (V7 l)) (.d .none) (Ym (min (max (s+ws.length) q.bz) q.zv) q ws++ed (V7 [.d (.tup [.int s,.int (s+ws.length)])])):=by
 let Xk:=Ym pt q ws++ed (AG 19)++ [.list l,.cell (some (.d (.int q.bz))),.cell (some (.d (.int q.zv))),.cell (some (.loc 0)),.cell (some (.loc 6))]
 have a:Z5 G (n+8) (.Z8 (.ref 655)) [Pp 21 23 22,.d (.int pt),.d (.int k)] Xk (.loc 24) (Xk++ [Z9 s ws.length]):=ha.at [0,1,2,3,4,5,6,21,22,23] (by rfl') (by rfl') (by rfl')
 let H1:=Ym (min (max (s+ws.length) q.bz) q.zv) q ws++ed (AG 25)++ [.list l,.cell (some (.d (.int q.bz))),.cell (some (.d (.int q.zv))),.cell (some (.loc 0)),.cell (some (.loc 6)),Z9 s ws.length,Z9 s ws.length]
 have c:Z5 G (n+9) (.Z8 (.ref 825)) [.loc 8,.loc 6,.d (.int k)] (Ym pt q ws++ed (AG 19)++ [.list l]) (.d .none) H1:=by
  refine con (F:=60) hT (ZL (by rfl') (Od hl (by rfl'))) fun loc=>⟨[.t 706,.con 707 (.loc 24) (Xk++ [Z9 s ws.length]),.t 710,.t 702],0,?_⟩
  exact @cast (decide (0<k)=true/\Z5 G (n+8) (.Z8 (.ref 655)) [Pp 21 23 22,.d (.int pt),.d (.int k)] Xk (.loc 24) (Xk++ [Z9 s ws.length])/\(!decide (k=0))=true/\decide (0<k)=true/\Post loc (.d .none) H1 (.d .none) ⟨loc,H1,[]⟩) _ (by rfl') ⟨hk,a,hk2,hk,Z1 rfl⟩
 have b:=Z5.box (H:=Ym pt q ws++ed (V7 l)) (i:=18) (j:=25) (x:="spans") (l:=l) (by rfl') c (o:=Z9 s ws.length) (by rfl') (by rfl') (l':= [.d (.tup [.int s,.int (s+ws.length)])]) (by rfl') (by decide)
 exact b.anew [0,1,2,3,4,5,6,7,8,9,10,11,12,13,14,15,16,17,18] (by rfl') (by rfl') (by rfl')
theorem vD {n:Nat}{k:Int}{us ws:List Int}{pt s:Int}{q:BB}{l:List AV}(hT:ZY G T0) (hl:Zm l)
  (ha:Z5 G (n+8) (.Z8 (.ref 655)) [S8 7 9 8,.d (.int pt),.d (.int k)] (hcl pt q ws q.bz) (.loc 10) (hcl pt q ws q.bz++ [Z9 s ws.length])) (hk:decide (0<k)=false) (hk2:(!decide (k=0))=true):
  Z5 G (n+9) (.Z8 (.ref 825)) [.loc 8,.loc 6,.d (.int k)] (Ym pt q ws++ed (V7 l)) (.d .none) (Ym (min (max s q.bz) q.zv) q ws++ed (V7 [.d (.tup [.int s,.int (s+ws.length)])])):=by
 let Xk:=Ym pt q ws++ed (AG 19)++ [.list l,.cell (some (.d (.int q.bz))),.cell (some (.d (.int q.zv))),.cell (some (.loc 0)),.cell (some (.loc 6))]
 have a:Z5 G (n+8) (.Z8 (.ref 655)) [S8 20 23 22,.d (.int pt),.d (.int k)] Xk (.loc 24) (Xk++ [Z9 s ws.length]):=ha.at [0,1,2,3,4,5,6,20,22,23] (by rfl') (by rfl') (by rfl')
 let H1:=Ym (min (max s q.bz) q.zv) q ws++ed (AG 25)++ [.list l,.cell (some (.d (.int q.bz))),.cell (some (.d (.int q.zv))),.cell (some (.loc 0)),.cell (some (.loc 6)),Z9 s ws.length,Z9 s ws.length]
 have c:Z5 G (n+9) (.Z8 (.ref 825)) [.loc 8,.loc 6,.d (.int k)] (Ym pt q ws++ed (AG 19)++ [.list l]) (.d .none) H1:=by
  refine con (F:=60) hT (ZL (by rfl') (Od hl (by rfl'))) fun loc=>⟨[.f 706,.con 709 (.loc 24) (Xk++ [Z9 s ws.length]),.t 710,.f 702],0,?_⟩
  exact @cast (decide (0<k)=false/\Z5 G (n+8) (.Z8 (.ref 655)) [S8 20 23 22,.d (.int pt),.d (.int k)] Xk (.loc 24) (Xk++ [Z9 s ws.length])/\(!decide (k=0))=true/\decide (0<k)=false/\Post loc (.d .none) H1 (.d .none) ⟨loc,H1,[]⟩) _ (by rfl') ⟨hk,a,hk2,hk,Z1 rfl⟩
 have b:=Z5.box (H:=Ym pt q ws++ed (V7 l)) (i:=18) (j:=25) (x:="spans") (l:=l) (by rfl') c (o:=Z9 s ws.length) (by rfl') (by rfl') (l':= [.d (.tup [.int s,.int (s+ws.length)])]) (by rfl') (by decide)
 exact b.anew [0,1,2,3,4,5,6,7,8,9,10,11,12,13,14,15,16,17,18] (by rfl') (by rfl') (by rfl')
theorem vC {n:Nat}{ws:List Int}{pt:Int}{q:BB}{l:List AV}(hT:ZY G T0) (hl:Zm l)
  (ha:Z5 G (n+8) (.Z8 (.ref 655)) [S8 7 9 8,.d (.int pt),.d (.int 0)] (hcl pt q ws q.bz) (.d .none) (hcl pt q ws q.bz)):
  Z5 G (n+9) (.Z8 (.ref 825)) [.loc 8,.loc 6,.d (.int 0)] (Ym pt q ws++ed (V7 l)) (.d .none) (Ym pt q ws++ed (V7 l)):=by
 let W:=Ym pt q ws++ed (V7 l)
 let Xk:=W++ [.cell (some (.d (.int q.bz))),.cell (some (.d (.int q.zv))),.cell (some (.loc 0)),.cell (some (.loc 6))]
 have a:Z5 G (n+8) (.Z8 (.ref 655)) [S8 19 22 21,.d (.int pt),.d (.int 0)] Xk (.d .none) Xk:=ha.at [0,1,2,3,4,5,6,19,21,22] (by rfl') (by rfl') (by rfl')
 have hs:Y9 19 W=true:=AF hl (A:=Ym pt q ws++ [.tab 820 "search_by.<locals>.<lambda>",AL 9 12 13 18 14 15 16 17,AK 10 11,.dict [(1,.loc 0)],.Z_ [1],.dict [],.Z_ [],.dict [],.dict [],.inst 1340 [("sort",.d (.str "")),("many",.d (.int 0))],.Z_ []]) (B:= []) (by rfl')
 refine con (F:=60) hT (ZL (by rfl') hs) fun loc=>⟨[.con 709 (.d .none) Xk],0,?_⟩
 exact @cast (Z5 G (n+8) (.Z8 (.ref 655)) [S8 19 22 21,.d (.int pt),.d (.int 0)] Xk (.d .none) Xk/\Post loc (.d .none) W (.d .none) ⟨loc,Xk,[]⟩) _ (by rfl') ⟨a,XG rfl⟩
abbrev jG:AO:= .inst 383 [("rows",.loc 7),("groups",.d (.int 0)),("marks",.d (.int 0)),("folds",.d (.bool true))]
abbrev Oc (T lim pt:Int) (a b c d:AV):AO:= .inst 609 [("code",.loc 6),("view",.loc 0),("table",.any),("point",.d (.int pt)),("steps",.d (.int 400000)),("taken",.d (.int T)),("limit",.d (.int lim)),("kept",a),("marks",b),("choices",c),("changes",d)]
def vB:Option Int->Str|some _=> "char" |none=> "any"
def mP:Option Int->List D|some c=> [.int c]|none=> []
abbrev W6 (r:Option Int):D:= .tup (.str (vB r)::mP r)
abbrev jF:AV:= .d (.tup [.str "done"])
abbrev h8 (pt:Int) (q:BB) (rs:List AV):List AO:=bw pt q++ [jG,.list rs]
abbrev hm (pt:Int) (q:BB) (rs:List AV) (T lim:Int):List AO:=h8 pt q rs++ [Oc T lim pt .any .any .any .any]
abbrev MB (pt:Int) (q:BB) (rs:List AV) (T lim:Int):List AO:=h8 pt q rs++ [Oc T lim pt (.loc 11) (.loc 13) (.loc 14) (.loc 15),.cell (some (.loc 8)),.Z_ [-1],.Z_ [-1, -1],.Z_ [-1],.Z_ [],.Z_ [],.Z_ []]
def takes (r:Option Int) (x:Int):Bool:=match r with|some c=>decide (c=Xp x)|none=> !decide (x=10)
def Yj (f:Int->Int) (lim:Int) (r:Option Int) (p:Int):Bool:=match decide (p<lim) with|true=>takes r (f p)|false=>false
abbrev WG (p:Int):Bool->D|true=> .int (p+1)|false=> .none
theorem Pk {n:Nat}{us:List Int}{rs:List AV}{pt p lim T:Int}{q:BB}{r:Option Int}{b:Bool}(hT:ZY G T0) (hh:Holds us q.bz q.zv q.gs q.cs) (hu:∀u∈us,isLt u) (hs:(rs.all fun x=>x.sc 16)=true) (hb:Yj (ZV us q.bz q.zv) lim r p=b):
  Z5 G (n+4) (.Z8 (.ref 587)) [.loc 8,.d (W6 r),.d (.int p)] (MB pt q rs T lim) (.d (WG p b)) (MB pt q rs T lim):=by
 let H:=MB pt q rs T lim
 have ca:Z5 G (n+3) (.Z8 (.ref 1113)) [.loc 0,.d (.int p)] H (.d (.int (ZV us q.bz q.zv p))) H:=(Ol (n:=n+1) (pt:=pt) (q:=q) (p:=p) hT hh).at [0,1,2,3,4,5] (by rfl') (by rfl') (by rfl')
 have cf:Z5 G (n+2) (.Z8 (.ref 81)) [.d (.int (ZV us q.bz q.zv p))] H (.d (.int (Xp (ZV us q.bz q.zv p)))) H:=(Hr (n:=n) (c:=ZV us q.bz q.zv p) hT (Qt hu hh.b hh.z)).at [] (by rfl') (by rfl') (by rfl')
 have hH:(gK H.length H.length && Y9 H.length H)=true:=by
  have e:(gK H.length H.length && Y9 H.length H)=((rs.all fun x=>x.sc 16) && true):=by rfl'
  rw[e,hs];rfl
 unfold Yj at hb
 revert hb
 cases l:decide (p<lim) with
 |false=>
  rintro rfl
  cases r with
  |none=>
   refine con (F:=40) hT hH fun loc=>⟨[.f 528],0,?_⟩
   exact @cast (decide (p<lim)=false/\Post loc (.d .none) H (.d .none) ⟨loc,H,[]⟩) _ (by rfl') ⟨l,Z1 rfl⟩
  |some c=>
   refine con (F:=40) hT hH fun loc=>⟨[.f 528],0,?_⟩
   exact @cast (decide (p<lim)=false/\Post loc (.d .none) H (.d .none) ⟨loc,H,[]⟩) _ (by rfl') ⟨l,Z1 rfl⟩
 |true=>
  intro hb
  have hb:takes r (ZV us q.bz q.zv p)=b:=hb
  cases r with
  |none=>
   cases b with
   |false=>
    refine con (F:=40) hT hH fun loc=>⟨[.t 528,.con 528 (.d (.int (ZV us q.bz q.zv p))) H,.f 528],0,?_⟩
    exact @cast (decide (p<lim)=true/\Z5 G (n+3) (.Z8 (.ref 1113)) [.loc 0,.d (.int p)] H (.d (.int (ZV us q.bz q.zv p))) H/\(!decide (ZV us q.bz q.zv p=10))=false/\Post loc (.d .none) H (.d .none) ⟨loc,H,[]⟩) _ (by rfl') ⟨l,ca,hb,Z1 rfl⟩
   |true=>
    refine con (F:=40) hT hH fun loc=>⟨[.t 528,.con 528 (.d (.int (ZV us q.bz q.zv p))) H,.t 528],0,?_⟩
    exact @cast (decide (p<lim)=true/\Z5 G (n+3) (.Z8 (.ref 1113)) [.loc 0,.d (.int p)] H (.d (.int (ZV us q.bz q.zv p))) H/\(!decide (ZV us q.bz q.zv p=10))=true/\Post loc (.d (.int (p+1))) H (.d (.int (p+1))) ⟨loc,H,[]⟩) _ (by rfl') ⟨l,ca,hb,Z1 rfl⟩
  |some c=>
   cases b with
   |false=>
    refine con (F:=40) hT hH fun loc=>⟨[.t 528,.con 528 (.d (.int (ZV us q.bz q.zv p))) H,.con 544 (.d (.int (Xp (ZV us q.bz q.zv p)))) H,.f 528],0,?_⟩
    exact @cast (decide (p<lim)=true/\Z5 G (n+3) (.Z8 (.ref 1113)) [.loc 0,.d (.int p)] H (.d (.int (ZV us q.bz q.zv p))) H/\Z5 G (n+2) (.Z8 (.ref 81)) [.d (.int (ZV us q.bz q.zv p))] H (.d (.int (Xp (ZV us q.bz q.zv p)))) H/\decide (c=Xp (ZV us q.bz q.zv p))=false/\Post loc (.d .none) H (.d .none) ⟨loc,H,[]⟩) _ (by rfl') ⟨l,ca,cf,hb,Z1 rfl⟩
   |true=>
    refine con (F:=40) hT hH fun loc=>⟨[.t 528,.con 528 (.d (.int (ZV us q.bz q.zv p))) H,.con 544 (.d (.int (Xp (ZV us q.bz q.zv p)))) H,.t 528],0,?_⟩
    exact @cast (decide (p<lim)=true/\Z5 G (n+3) (.Z8 (.ref 1113)) [.loc 0,.d (.int p)] H (.d (.int (ZV us q.bz q.zv p))) H/\Z5 G (n+2) (.Z8 (.ref 81)) [.d (.int (ZV us q.bz q.zv p))] H (.d (.int (Xp (ZV us q.bz q.zv p)))) H/\decide (c=Xp (ZV us q.bz q.zv p))=true/\Post loc (.d (.int (p+1))) H (.d (.int (p+1))) ⟨loc,H,[]⟩) _ (by rfl') ⟨l,ca,cf,hb,Z1 rfl⟩
def Yu (f:Int->Int) (lim:Int):List (Option Int)->Int->Option Int
 | [],p=>some p
 |r::l,p=>match Yj f lim r p with|true=>Yu f lim l (p+1)|false=>none
def Xa (f:Int->Int) (lim:Int):List (Option Int)->Int->Int->Int
 | [],_,T=>T+1
 |r::l,p,T=>match Yj f lim r p with|true=>Xa f lim l (p+1) (T+1)|false=>T+1
abbrev p7 (k:Nat):Option Int->AV|none=> .d .none|some _=> .loc k
abbrev vA (p:Int):Option Int->List AO|none=> []|some e=> [.list [.d (.tup [.int p,.int e])]]
abbrev Z7:List (Option Int)->List AV| []=> [jF]|r::l=> .d (W6 r)::Z7 l
abbrev VH (t i:Int) (k:Nat) (r:Option Int) (X:Prop):Prop:=decide (400000<t)=false/\Wq i k=true/\Wq 0 (D.str (vB r)::mP r).length=true/\sq (vB r) "done" =false/\sq (vB r) "split" =false/\sq (vB r) "jump" =false/\X
theorem Vl {t i:Int}{k:Nat}{r:Option Int}{X:Prop}(ht:t<=400000) (hi:Wq i k=true) (x:X):VH t i k r X:=by
 cases r<;>exact⟨decide_eq_false (by omega),hi,by rfl',by rfl',by rfl',by rfl',x⟩
abbrev Vk (c:Gh):List Gh:= [.f 494,.k 496,.k 496,.f 497,.f 499,.f 503,c]
abbrev MJ (G:Gm) (n:Nat) (pt:Int) (q:BB) (f:Int->Int) (p lim l0 T:Int) (rs:List (Option Int)):Prop:=Z5 G n (.Z8 (.ref 552)) [.loc 8,.d (.int p),.d (.int lim)] (hm pt q (Z7 rs) T l0) (p7 9 (Yu f lim rs p)) (hm pt q (Z7 rs) (Xa f lim rs p T) lim++vA p (Yu f lim rs p))
abbrev ann:List Str:= ["kept","marks","choices","changes"]
theorem Ua {n:Nat}{pt p lim l0 T t:Int}{q:BB}{f:Int->Int}{rs:List (Option Int)}(h1:Yu f lim rs p=none) (h2:Xa f lim rs p T=t) (hs:((Z7 rs).all fun x=>x.sc 9)=true)
  (z:Z5 G n (.Z8 (.ref 552)) [.loc 8,.d (.int p),.d (.int lim)] (hm pt q (Z7 rs) T l0) (.d .none) (MB pt q (Z7 rs) t lim++ [.Z_ []])):MJ G n pt q f p lim l0 T rs:=by
 unfold MJ
 rw[h1,h2]
 show Z5 G n _ _ _ (.d .none) (hm pt q (Z7 rs) t lim++ [])
 rw[gE]
 refine z.any (h8 pt q (Z7 rs)++ [Oc t lim pt (.loc 11) (.loc 13) (.loc 14) (.loc 15)]) [.cell (some (.loc 8)),.Z_ [-1],.Z_ [-1, -1],.Z_ [-1],.Z_ [],.Z_ [],.Z_ [],.Z_ []] 8 ann (by rfl') ?_
 refine Eq.trans (b:=(((Z7 rs).all fun x=>x.sc 9) && true) && true) (by rfl') ?_
 rw[hs];rfl
theorem MA {n:Nat}{pt p lim l0 T t e:Int}{q:BB}{f:Int->Int}{rs:List (Option Int)}(h1:Yu f lim rs p=some e) (h2:Xa f lim rs p T=t) (hs:((Z7 rs).all fun x=>x.sc 10)=true)
  (hr:∀k,Yk (Mine.YN [0,1,2,3,4,5,6,7,8,17,11,13,14,15] k) (Z7 rs)=Z7 rs)
  (z:Z5 G n (.Z8 (.ref 552)) [.loc 8,.d (.int p),.d (.int lim)] (hm pt q (Z7 rs) T l0) (.loc 17) (h8 pt q (Z7 rs)++ [Oc t lim pt (.loc 11) (.loc 13) (.loc 14) (.loc 15),.cell (some (.loc 8)),.Z_ [-1],.Z_ [p,e],.Z_ [-1],.Z_ [],.Z_ [],.Z_ [],.gone,.list [.d (.tup [.int p,.int e])]])):MJ G n pt q f p lim l0 T rs:=by
 unfold MJ
 rw[h1,h2]
 have z1:Z5 G n (.Z8 (.ref 552)) [.loc 8,.d (.int p),.d (.int lim)] (hm pt q (Z7 rs) T l0) (.loc 9) (h8 pt q (Z7 rs)++ [Oc t lim pt (.loc 10) (.loc 11) (.loc 12) (.loc 13),.list [.d (.tup [.int p,.int e])],.Z_ [p,e],.Z_ [],.Z_ [],.Z_ []]):=by
  refine z.anew [0,1,2,3,4,5,6,7,8,17,11,13,14,15] (by rfl') ?_ (by rfl')
  have q:∀k,([0,1,2,3,4,5,6,7,8,17,11,13,14,15].map fun i=>(h8 pt q (Yk (Mine.YN [0,1,2,3,4,5,6,7,8,17,11,13,14,15] k) (Z7 rs))++ [Oc t lim pt (.loc 11) (.loc 13) (.loc 14) (.loc 15),.cell (some (.loc 8)),.Z_ [-1],.Z_ [p,e],.Z_ [-1],.Z_ [],.Z_ [],.Z_ [],.gone,.list [.d (.tup [.int p,.int e])]])[i]?)=([0,1,2,3,4,5,6,7,8,17,11,13,14,15].map fun i=>(h8 pt q (Z7 rs)++ [Oc t lim pt (.loc 11) (.loc 13) (.loc 14) (.loc 15),.cell (some (.loc 8)),.Z_ [-1],.Z_ [p,e],.Z_ [-1],.Z_ [],.Z_ [],.Z_ [],.gone,.list [.d (.tup [.int p,.int e])]])[i]?):=fun k=>by rw[hr k]
  exact(q 18).symm.trans (by rfl')
 refine z1.any (h8 pt q (Z7 rs)++ [Oc t lim pt (.loc 10) (.loc 11) (.loc 12) (.loc 13),.list [.d (.tup [.int p,.int e])]]) [.Z_ [p,e],.Z_ [],.Z_ [],.Z_ []] 8 ann (by rfl') ?_
 refine Eq.trans (b:=(((Z7 rs).all fun x=>x.sc 10) && true) && true) (by rfl') ?_
 rw[hs];rfl
theorem GY {n:Nat}{us:List Int}{pt p lim l0 T:Int}{q:BB}{r0:Option Int}(hT:ZY G T0) (hh:Holds us q.bz q.zv q.gs q.cs) (hu:∀u∈us,isLt u) (hp:0<=p) (ht:T<=100000):
  MJ G (n+6) pt q (ZV us q.bz q.zv) p lim l0 T [r0]:=by
 have o1:T+1<=400000:=by omega
 have o2:T+1+1<=400000:=by omega
 have o3:T+1+1+1<=400000:=by omega
 have o4:T+1+1+1+1<=400000:=by omega
 have o5:decide (p<0)=false:=decide_eq_false (by omega)
 have o6:decide (p+1<0)=false:=decide_eq_false (by omega)
 let H:Int->List AO:=fun T=>MB pt q (Z7 [r0]) T lim
 have ca:∀{r:Option Int}{b:Bool}(y t:Int),Yj (ZV us q.bz q.zv) lim r y=b->Z5 G (n+4) (.Z8 (.ref 587)) [.loc 8,.d (W6 r),.d (.int y)] (H t) (.d (WG y b)) (H t):=fun y t h=>Pk hT hh hu rfl h
 cases b0:Yj (ZV us q.bz q.zv) lim r0 (p) with
 |false=>
  refine Ua (t:=T+1) (by simp only[Yu,b0]) (by simp only[Xa,b0]) rfl ?_
  exact YY (F:=60) hT (by rfl') (Vk (.con 506 (.d .none) (H (T+1)))) (fun loc=>VH (T+1) (0) 2 r0 (Z5 G (n+4) (.Z8 (.ref 587)) [.loc 8,.d (W6 r0),.d (.int (p))] (H (T+1)) (.d (WG (p) false)) (H (T+1))/\Post loc (.d .none) (H (T+1)++ [.Z_ []]) (.d .none) ⟨loc,(H (T+1)++ [.Z_ []]),[]⟩)) (fun loc=>by rfl') (fun loc=>Vl o1 (by rfl') ⟨ca (p) (T+1) b0,Z1 rfl⟩)
 |true=>
 refine MA (e:=p+1) (t:=T+1+1) (by simp only[Yu,b0]) (by simp only[Xa,b0]) rfl (fun k=>rfl) ?_
 exact YY (F:=60) hT (by rfl') (Vk (.con 506 (.d (.int (p+1))) (H (T+1)))++ [.f 494,.f 488,.f 488]) (fun loc=>VH (T+1) (0) 2 r0 (Z5 G (n+4) (.Z8 (.ref 587)) [.loc 8,.d (W6 r0),.d (.int (p))] (H (T+1)) (.d (WG (p) true)) (H (T+1))/\decide (400000<T+1+1)=false/\decide (p<0)=false/\decide (p+1<0)=false/\Post loc (.loc 17) (h8 pt q (Z7 [r0])++ [Oc (T+1+1) lim pt (.loc 11) (.loc 13) (.loc 14) (.loc 15),.cell (some (.loc 8)),.Z_ [-1],.Z_ [p,p+1],.Z_ [-1],.Z_ [],.Z_ [],.Z_ [],.gone,.list [.d (.tup [.int p,.int (p+1)])]]) (.loc 17) ⟨loc,(h8 pt q (Z7 [r0])++ [Oc (T+1+1) lim pt (.loc 11) (.loc 13) (.loc 14) (.loc 15),.cell (some (.loc 8)),.Z_ [-1],.Z_ [p,p+1],.Z_ [-1],.Z_ [],.Z_ [],.Z_ [],.gone,.list [.d (.tup [.int p,.int (p+1)])]]),[]⟩)) (fun loc=>by rfl') (fun loc=>Vl o1 (by rfl') ⟨ca (p) (T+1) b0,decide_eq_false (fc.mpr o2),o5,o6,Z1 (by rfl')⟩)
theorem GX {n:Nat}{us:List Int}{pt p lim l0 T:Int}{q:BB}{r0 r1:Option Int}(hT:ZY G T0) (hh:Holds us q.bz q.zv q.gs q.cs) (hu:∀u∈us,isLt u) (hp:0<=p) (ht:T<=100000):
  MJ G (n+6) pt q (ZV us q.bz q.zv) p lim l0 T [r0,r1]:=by
 have o1:T+1<=400000:=by omega
 have o2:T+1+1<=400000:=by omega
 have o3:T+1+1+1<=400000:=by omega
 have o4:T+1+1+1+1<=400000:=by omega
 have o5:decide (p<0)=false:=decide_eq_false (by omega)
 have o6:decide (p+1+1<0)=false:=decide_eq_false (by omega)
 let H:Int->List AO:=fun T=>MB pt q (Z7 [r0,r1]) T lim
 have ca:∀{r:Option Int}{b:Bool}(y t:Int),Yj (ZV us q.bz q.zv) lim r y=b->Z5 G (n+4) (.Z8 (.ref 587)) [.loc 8,.d (W6 r),.d (.int y)] (H t) (.d (WG y b)) (H t):=fun y t h=>Pk hT hh hu rfl h
 cases b0:Yj (ZV us q.bz q.zv) lim r0 (p) with
 |false=>
  refine Ua (t:=T+1) (by simp only[Yu,b0]) (by simp only[Xa,b0]) rfl ?_
  exact YY (F:=60) hT (by rfl') (Vk (.con 506 (.d .none) (H (T+1)))) (fun loc=>VH (T+1) (0) 3 r0 (Z5 G (n+4) (.Z8 (.ref 587)) [.loc 8,.d (W6 r0),.d (.int (p))] (H (T+1)) (.d (WG (p) false)) (H (T+1))/\Post loc (.d .none) (H (T+1)++ [.Z_ []]) (.d .none) ⟨loc,(H (T+1)++ [.Z_ []]),[]⟩)) (fun loc=>by rfl') (fun loc=>Vl o1 (by rfl') ⟨ca (p) (T+1) b0,Z1 rfl⟩)
 |true=>
 cases b1:Yj (ZV us q.bz q.zv) lim r1 (p+1) with
 |false=>
  refine Ua (t:=T+1+1) (by simp only[Yu,b0,b1]) (by simp only[Xa,b0,b1]) rfl ?_
  exact YY (F:=60) hT (by rfl') (Vk (.con 506 (.d (.int (p+1))) (H (T+1)))++Vk (.con 506 (.d .none) (H (T+1+1)))) (fun loc=>VH (T+1) (0) 3 r0 (Z5 G (n+4) (.Z8 (.ref 587)) [.loc 8,.d (W6 r0),.d (.int (p))] (H (T+1)) (.d (WG (p) true)) (H (T+1))/\VH (T+1+1) (0+1) 3 r1 (Z5 G (n+4) (.Z8 (.ref 587)) [.loc 8,.d (W6 r1),.d (.int (p+1))] (H (T+1+1)) (.d (WG (p+1) false)) (H (T+1+1))/\Post loc (.d .none) (H (T+1+1)++ [.Z_ []]) (.d .none) ⟨loc,(H (T+1+1)++ [.Z_ []]),[]⟩))) (fun loc=>by rfl') (fun loc=>Vl o1 (by rfl') ⟨ca (p) (T+1) b0,Vl o2 (by rfl') ⟨ca (p+1) (T+1+1) b1,Z1 rfl⟩⟩)
 |true=>
 refine MA (e:=p+1+1) (t:=T+1+1+1) (by simp only[Yu,b0,b1]) (by simp only[Xa,b0,b1]) rfl (fun k=>rfl) ?_
 exact YY (F:=60) hT (by rfl') (Vk (.con 506 (.d (.int (p+1))) (H (T+1)))++Vk (.con 506 (.d (.int (p+1+1))) (H (T+1+1)))++ [.f 494,.f 488,.f 488]) (fun loc=>VH (T+1) (0) 3 r0 (Z5 G (n+4) (.Z8 (.ref 587)) [.loc 8,.d (W6 r0),.d (.int (p))] (H (T+1)) (.d (WG (p) true)) (H (T+1))/\VH (T+1+1) (0+1) 3 r1 (Z5 G (n+4) (.Z8 (.ref 587)) [.loc 8,.d (W6 r1),.d (.int (p+1))] (H (T+1+1)) (.d (WG (p+1) true)) (H (T+1+1))/\decide (400000<T+1+1+1)=false/\decide (p<0)=false/\decide (p+1+1<0)=false/\Post loc (.loc 17) (h8 pt q (Z7 [r0,r1])++ [Oc (T+1+1+1) lim pt (.loc 11) (.loc 13) (.loc 14) (.loc 15),.cell (some (.loc 8)),.Z_ [-1],.Z_ [p,p+1+1],.Z_ [-1],.Z_ [],.Z_ [],.Z_ [],.gone,.list [.d (.tup [.int p,.int (p+1+1)])]]) (.loc 17) ⟨loc,(h8 pt q (Z7 [r0,r1])++ [Oc (T+1+1+1) lim pt (.loc 11) (.loc 13) (.loc 14) (.loc 15),.cell (some (.loc 8)),.Z_ [-1],.Z_ [p,p+1+1],.Z_ [-1],.Z_ [],.Z_ [],.Z_ [],.gone,.list [.d (.tup [.int p,.int (p+1+1)])]]),[]⟩))) (fun loc=>by rfl') (fun loc=>Vl o1 (by rfl') ⟨ca (p) (T+1) b0,Vl o2 (by rfl') ⟨ca (p+1) (T+1+1) b1,decide_eq_false (fc.mpr o3),o5,o6,Z1 (by rfl')⟩⟩)
theorem GW {n:Nat}{us:List Int}{pt p lim l0 T:Int}{q:BB}{r0 r1 r2:Option Int}(hT:ZY G T0) (hh:Holds us q.bz q.zv q.gs q.cs) (hu:∀u∈us,isLt u) (hp:0<=p) (ht:T<=100000):
  MJ G (n+6) pt q (ZV us q.bz q.zv) p lim l0 T [r0,r1,r2]:=by
 have o1:T+1<=400000:=by omega
 have o2:T+1+1<=400000:=by omega
 have o3:T+1+1+1<=400000:=by omega
 have o4:T+1+1+1+1<=400000:=by omega
 have o5:decide (p<0)=false:=decide_eq_false (by omega)
 have o6:decide (p+1+1+1<0)=false:=decide_eq_false (by omega)
 let H:Int->List AO:=fun T=>MB pt q (Z7 [r0,r1,r2]) T lim
 have ca:∀{r:Option Int}{b:Bool}(y t:Int),Yj (ZV us q.bz q.zv) lim r y=b->Z5 G (n+4) (.Z8 (.ref 587)) [.loc 8,.d (W6 r),.d (.int y)] (H t) (.d (WG y b)) (H t):=fun y t h=>Pk hT hh hu rfl h
 cases b0:Yj (ZV us q.bz q.zv) lim r0 (p) with
 |false=>
  refine Ua (t:=T+1) (by simp only[Yu,b0]) (by simp only[Xa,b0]) rfl ?_
  exact YY (F:=60) hT (by rfl') (Vk (.con 506 (.d .none) (H (T+1)))) (fun loc=>VH (T+1) (0) 4 r0 (Z5 G (n+4) (.Z8 (.ref 587)) [.loc 8,.d (W6 r0),.d (.int (p))] (H (T+1)) (.d (WG (p) false)) (H (T+1))/\Post loc (.d .none) (H (T+1)++ [.Z_ []]) (.d .none) ⟨loc,(H (T+1)++ [.Z_ []]),[]⟩)) (fun loc=>by rfl') (fun loc=>Vl o1 (by rfl') ⟨ca (p) (T+1) b0,Z1 rfl⟩)
 |true=>
 cases b1:Yj (ZV us q.bz q.zv) lim r1 (p+1) with
 |false=>
  refine Ua (t:=T+1+1) (by simp only[Yu,b0,b1]) (by simp only[Xa,b0,b1]) rfl ?_
  exact YY (F:=60) hT (by rfl') (Vk (.con 506 (.d (.int (p+1))) (H (T+1)))++Vk (.con 506 (.d .none) (H (T+1+1)))) (fun loc=>VH (T+1) (0) 4 r0 (Z5 G (n+4) (.Z8 (.ref 587)) [.loc 8,.d (W6 r0),.d (.int (p))] (H (T+1)) (.d (WG (p) true)) (H (T+1))/\VH (T+1+1) (0+1) 4 r1 (Z5 G (n+4) (.Z8 (.ref 587)) [.loc 8,.d (W6 r1),.d (.int (p+1))] (H (T+1+1)) (.d (WG (p+1) false)) (H (T+1+1))/\Post loc (.d .none) (H (T+1+1)++ [.Z_ []]) (.d .none) ⟨loc,(H (T+1+1)++ [.Z_ []]),[]⟩))) (fun loc=>by rfl') (fun loc=>Vl o1 (by rfl') ⟨ca (p) (T+1) b0,Vl o2 (by rfl') ⟨ca (p+1) (T+1+1) b1,Z1 rfl⟩⟩)
 |true=>
 cases b2:Yj (ZV us q.bz q.zv) lim r2 (p+1+1) with
 |false=>
  refine Ua (t:=T+1+1+1) (by simp only[Yu,b0,b1,b2]) (by simp only[Xa,b0,b1,b2]) rfl ?_
  exact YY (F:=60) hT (by rfl') (Vk (.con 506 (.d (.int (p+1))) (H (T+1)))++Vk (.con 506 (.d (.int (p+1+1))) (H (T+1+1)))++Vk (.con 506 (.d .none) (H (T+1+1+1)))) (fun loc=>VH (T+1) (0) 4 r0 (Z5 G (n+4) (.Z8 (.ref 587)) [.loc 8,.d (W6 r0),.d (.int (p))] (H (T+1)) (.d (WG (p) true)) (H (T+1))/\VH (T+1+1) (0+1) 4 r1 (Z5 G (n+4) (.Z8 (.ref 587)) [.loc 8,.d (W6 r1),.d (.int (p+1))] (H (T+1+1)) (.d (WG (p+1) true)) (H (T+1+1))/\VH (T+1+1+1) (0+1+1) 4 r2 (Z5 G (n+4) (.Z8 (.ref 587)) [.loc 8,.d (W6 r2),.d (.int (p+1+1))] (H (T+1+1+1)) (.d (WG (p+1+1) false)) (H (T+1+1+1))/\Post loc (.d .none) (H (T+1+1+1)++ [.Z_ []]) (.d .none) ⟨loc,(H (T+1+1+1)++ [.Z_ []]),[]⟩)))) (fun loc=>by rfl') (fun loc=>Vl o1 (by rfl') ⟨ca (p) (T+1) b0,Vl o2 (by rfl') ⟨ca (p+1) (T+1+1) b1,Vl o3 (by rfl') ⟨ca (p+1+1) (T+1+1+1) b2,Z1 rfl⟩⟩⟩)
 |true=>
 refine MA (e:=p+1+1+1) (t:=T+1+1+1+1) (by simp only[Yu,b0,b1,b2]) (by simp only[Xa,b0,b1,b2]) rfl (fun k=>rfl) ?_
 exact YY (F:=60) hT (by rfl') (Vk (.con 506 (.d (.int (p+1))) (H (T+1)))++Vk (.con 506 (.d (.int (p+1+1))) (H (T+1+1)))++Vk (.con 506 (.d (.int (p+1+1+1))) (H (T+1+1+1)))++ [.f 494,.f 488,.f 488]) (fun loc=>VH (T+1) (0) 4 r0 (Z5 G (n+4) (.Z8 (.ref 587)) [.loc 8,.d (W6 r0),.d (.int (p))] (H (T+1)) (.d (WG (p) true)) (H (T+1))/\VH (T+1+1) (0+1) 4 r1 (Z5 G (n+4) (.Z8 (.ref 587)) [.loc 8,.d (W6 r1),.d (.int (p+1))] (H (T+1+1)) (.d (WG (p+1) true)) (H (T+1+1))/\VH (T+1+1+1) (0+1+1) 4 r2 (Z5 G (n+4) (.Z8 (.ref 587)) [.loc 8,.d (W6 r2),.d (.int (p+1+1))] (H (T+1+1+1)) (.d (WG (p+1+1) true)) (H (T+1+1+1))/\decide (400000<T+1+1+1+1)=false/\decide (p<0)=false/\decide (p+1+1+1<0)=false/\Post loc (.loc 17) (h8 pt q (Z7 [r0,r1,r2])++ [Oc (T+1+1+1+1) lim pt (.loc 11) (.loc 13) (.loc 14) (.loc 15),.cell (some (.loc 8)),.Z_ [-1],.Z_ [p,p+1+1+1],.Z_ [-1],.Z_ [],.Z_ [],.Z_ [],.gone,.list [.d (.tup [.int p,.int (p+1+1+1)])]]) (.loc 17) ⟨loc,(h8 pt q (Z7 [r0,r1,r2])++ [Oc (T+1+1+1+1) lim pt (.loc 11) (.loc 13) (.loc 14) (.loc 15),.cell (some (.loc 8)),.Z_ [-1],.Z_ [p,p+1+1+1],.Z_ [-1],.Z_ [],.Z_ [],.Z_ [],.gone,.list [.d (.tup [.int p,.int (p+1+1+1)])]]),[]⟩)))) (fun loc=>by rfl') (fun loc=>Vl o1 (by rfl') ⟨ca (p) (T+1) b0,Vl o2 (by rfl') ⟨ca (p+1) (T+1+1) b1,Vl o3 (by rfl') ⟨ca (p+1+1) (T+1+1+1) b2,decide_eq_false (fc.mpr o4),o5,o6,Z1 (by rfl')⟩⟩⟩)
end
section
variable {G:Gm}{n:Nat}
theorem Z5.UU {f f':AV}{as as':List AV}{r0 r':AV}{L:List AV}{H0 X_ Hb VM:List AV->List AO}(c:Z5 G n f as (H0 L) r0 (X_ L)) (hL:∀r,Yk r L=L) (e:List Nat) (k:Nat)
  (h1:(Tq e && gK e.length (X_ L).length)=true) (hk:∀X,(Hb X).length=k) (h2:∀X,(e.map fun i=>(Hb (Yk (Mine.YN e k) X))[i]?)=(YI (Mine.YN e k) (H0 X)).map some)
  (h3:∀X,(f.Yb (Mine.YN e k),Yk (Mine.YN e k) as,r0.Yb (Mine.YN e k),XA e ((YI (Mine.YN e k) (X_ X)).take e.length) (Uc e (Hb (Yk (Mine.YN e k) X)))++(YI (Mine.YN e k) (X_ X)).drop e.length)=(f',as',r',VM (Yk (Mine.YN e k) X))):Z5 G n f' as' (Hb L) r' (VM L):=by
 have a:=h2 L
 have b:=h3 L
 rw[hL] at a b
 refine c.at e h1 ?_ ?_
 ·rw[hk];exact a
 ·rw[hk];exact b
theorem Z5.Cx {f:AV}{as:List AV}{L:List AV}{H H1 H':List AV->List AO}{r1 r:AV}(c:Z5 G n f as (H L) r1 (H1 L)) (hL:∀r,Yk r L=L) (e:List Nat) (k:Nat) (hk:∀X,(H1 X).length=k) (h1:Tq e=true)
  (h2:∀X,(e.map fun i=>(H1 (Yk (Mine.YN e k) X))[i]?)=(YI (Mine.YN e k) (H' X)).map some) (h3:(r.Yb (Mine.YN e k),e.take (H L).length)=(r1,eY (H L).length)):Z5 G n f as (H L) r (H' L):=by
 have a:=h2 L
 rw[hL] at a
 refine c.anew e h1 ?_ ?_
 ·rw[hk];exact a
 ·rw[hk];exact h3
theorem J8 {L:List AV}(hl:Zm L) {H:List AV->List AO}{b:Bool}{K:Nat}(h:∀X,(b && Y9 K (H X))=((X.all fun x=>x.sc K) && true)):(b && Y9 K (H L))=true:=by
 rw[h L,hl K];rfl
theorem T_ {L:List AV}(hl:Zm L) {H:List AV->List AO}{K:Nat}(h:∀X,Y9 K (H X)=((X.all fun x=>x.sc K) && true)):Y9 K (H L)=true:=by
 rw[h L,hl K];rfl
theorem YO {r:Nat->Nat}:∀rs:List (Option Int),Yk r (Z7 rs)=Z7 rs
 | []=>rfl
 |x::l=>congrArg (AV.d (W6 x)::·) (YO l)
theorem YU:∀rs:List (Option Int),Zm (Z7 rs)
 | [],_=>rfl
 |x::l,k=>YU l k
end
section
variable {G:Gm}
def ZG (f:Int->Int) (lim:Int):List (Option Int)->Int->Bool
 | [],_=>true
 |r::l,p=>match Yj f lim r p with|true=>ZG f lim l (p+1)|false=>false
abbrev resB (k:Nat):Bool->AV|true=> .loc k|false=> .d .none
abbrev GV (p m:Int):Bool->List AO|true=> [Z9 p m]|false=> []
theorem Ob {f:Int->Int}{lim:Int}:∀{rs:List (Option Int)}{p:Int},Yu f lim rs p=match ZG f lim rs p with|true=>some (p+rs.length)|false=>none
 | [],p=>by simp[Yu,ZG]
 |r::l,p=>by
  unfold Yu ZG
  cases Yj f lim r p with
  |false=>rfl
  |true=>
   dsimp only
   rw[Ob (rs:=l),fR,show p+1+(l.length:Int)=p+((l.length+1:Nat):Int) by push_cast;omega]
theorem Pj {f:Int->Int}{lim:Int}:∀{rs:List (Option Int)}{p T:Int},Xa f lim rs p T<=T+rs.length+1
 | [],p,T=>by simp[Xa]
 |r::l,p,T=>by
  unfold Xa
  cases Yj f lim r p with
  |false=>dsimp only;rw[fR];push_cast;omega
  |true=>dsimp only;have:=Pj (f:=f) (lim:=lim) (rs:=l) (p:=p+1) (T:=T+1);rw[fR];push_cast;omega
theorem vz {n:Nat}{us:List Int}{pt p lim l0 T:Int}{q:BB}{rs:List (Option Int)}{b:Bool}(hT:ZY G T0) (hh:Holds us q.bz q.zv q.gs q.cs) (hu:∀u∈us,isLt u) (hrs:1<=rs.length/\rs.length<=3) (hp:0<=p) (ht:T<=100000) (hb:ZG (ZV us q.bz q.zv) lim rs p=b):
  Z5 G (n+6) (.Z8 (.ref 552)) [.loc 8,.d (.int p),.d (.int lim)] (hm pt q (Z7 rs) T l0) (resB 9 b) (hm pt q (Z7 rs) (Xa (ZV us q.bz q.zv) lim rs p T) lim++GV p rs.length b):=by
 have c:MJ G (n+6) pt q (ZV us q.bz q.zv) p lim l0 T rs:=by
  match rs,hrs with
  | [a],_=>exact GY hT hh hu hp ht
  | [a,b],_=>exact GX hT hh hu hp ht
  | [a,b,c],_=>exact GW hT hh hu hp ht
  | [],h=>exact absurd h.1 (by decide)
  |a::b::c::d::l,h=>exact absurd h.2 (by simp only[fR];omega)
 unfold MJ at c
 rw[Ob,hb] at c
 cases b with
 |false=>exact c
 |true=>exact c
abbrev four:List AO:= [.Z_ [],.Z_ [],.Z_ [],.Z_ []]
abbrev hR (pt:Int) (q:BB) (X:List AV) (T l:Int):List AO:=hm pt q X T l++four
abbrev AE:Fn:=Zc 64 none ["view","table","place","code","bound","point"] []
abbrev JI:Stmt:=VZ AE 2
theorem AD:JI= .For (VL JI) (LB JI) (Wt JI) [] (FY JI):=by rfl'
abbrev Eb (p bd pt lim:Int):List (Str×AV):= [("view",.loc 0),("table",.any),("place",.d (.int p)),("code",.loc 6),("bound",.d (.int bd)),("point",.d (.int pt)),("machine",.loc 8),("last",.d (.int lim))]
def RH (f:Int->Int) (lim:Int) (rs:List (Option Int)) (x T l0:Int):Nat->Int×Int
 |0=>(T,l0)
 |k+1=>match ZG f lim rs x with|true=>(Xa f lim rs x T,lim)|false=>RH f lim rs (x+1) (Xa f lim rs x T) lim k
abbrev sV:Option Int->Zk|none=> .next|some _=> .ret (.loc 14)
abbrev GU (H:List AO) (m e:Int):Option Int->List AO|none=>H|some s=>H++ [.it false (ZI (s+1) (e - (s+1)).toNat),Z9 s m]
set_option tactic.hygienic true in
theorem Ea {n:Nat}{us:List Int}{pt p bd lim:Int}{q:BB}{rs:List (Option Int)}{b:Option Int}{TT:Int×Int}(hT:ZY G T0) (hh:Holds us q.bz q.zv q.gs q.cs) (hu:∀u∈us,isLt u) (hrs:1<=rs.length/\rs.length<=3) (hp:0<=p/\p<=1000) (hz: -1000<=lim/\lim<=1000)
  (hr:Zf (fun s=>ZG (ZV us q.bz q.zv) lim rs s) p (lim+1 - p).toNat=b) (ht:RH (ZV us q.bz q.zv) lim rs p 0 0 (lim+1 - p).toNat=TT):
  Wb G (n+6) (fm AE) JI (Eb p bd pt lim) (hR pt q (Z7 rs) 0 0) (sV b) (Eb p bd pt lim) (GU (hR pt q (Z7 rs) TT.1 TT.2) rs.length (lim+1) b):=by
 generalize he:lim+1=e at*
 let f:=ZV us q.bz q.zv
 let H7:Int->Int->List AV->List AO:=fun T l X=>hR pt q X T l
 let R:=Z7 rs
 have hsc:Zm R:=YU rs
 have vv:∀r,Yk r R=R:=fun r=>YO rs
 let L1:=Eb p bd pt lim
 let K3:Zk->St->Prop:=Zp YA 13 (sV b) L1 (GU (H7 TT.1 TT.2 R) rs.length e b)
 let S:Int->Nat->Int->Int->St:=fun x c T l=>⟨L1,H7 T l R++ [.it false (ZI x c)],[]⟩
 refine WI (F:=24) (os:= [.k 0]) hT AD (by rfl') ?_
 have hsm:∀i:Int, -2000<=i/\i<=2000->Y6 i=true:=fun i hi=>fT (VY hi (by decide))
 refine @cast ((match Y6 p with|true=>Y6 (lim+1)|false=>false)=true/\Kw G (n+6) (fm AE) 13 (VL JI) (Wt JI) (S p (lim+1 - p).toNat 0 0) K3) _ (by rfl') ⟨?_,?_⟩
 ·rw[hsm p (by omega)];exact hsm _ (by omega)
 rw[he]
 refine Wo (fun c σ=>∃x T l:Int,c=(e - x).toNat/\0<=x/\T+4*(c:Int)<=50000/\Zf (fun s=>ZG f lim rs s) x c=b/\RH f lim rs x T l c=TT/\σ=S x c T l) ?_ (e - p).toNat ⟨p,0,0,rfl,hp.1,by omega,hr,ht,rfl⟩
 rintro c _ ⟨x,T,l,hc,hx,p6,hf,hcn,rfl⟩
 refine Qs (σ:=S x c T l) (k:=13) (by rfl') rfl ?_
 cases c with
 |zero=>
  have hb:b=none:=hf.symm
  have ht:TT=(T,l):=hcn.symm
  subst hb
  subst ht
  refine Zz (g:= [.gone]) (J8 hsc (H:=fun X=>H7 T l X) fun X=>by rfl') trivial (SG (by rfl'))
 |succ c=>
  let T':=Xa f lim rs x T
  have Cw:T'<=T+4:=by have:=Pj (f:=f) (lim:=lim) (rs:=rs) (p:=x) (T:=T);have:=hrs.2;omega
  let H8:Int->Int->List AV->List AO:=fun T l X=>H7 T l X++ [.it false (ZI (x+1) c)]
  let L2:List (Str×AV):=Mine.put L1 "start" (.d (.int x))
  show Rg G (n+6) (fm AE) (VL JI) (.d (.int x)) ⟨L1,H8 T l R,[]⟩ _ Zn
  refine(ZA hT 16).a ?_
  refine @cast (X0 G (n+6) (fm AE) (Wt JI) ⟨L2,H8 T l R,[]⟩ (Yl K3 fun Zq=>∃c',c'<c+1/\∃x T l:Int,c'=(e - x).toNat/\0<=x/\T+4*(c':Int)<=50000/\Zf (fun s=>ZG f lim rs s) x c'=b/\RH f lim rs x T l c'=TT/\Zq=S x c' T l) Zn) _ (by rfl') ?_
  have ch:∀y,ZG f lim rs x=y->Z5 G (n+6) (.Z8 (.ref 552)) [.loc 8,.d (.int x),.d (.int lim)] (H8 T l R) (resB 14 y) (H8 T' lim R++GV x rs.length y):=fun y hq=>by
   have c0:=vz (n:=n) (pt:=pt) (q:=q) (l0:=l) (T:=T) (lim:=lim) (p:=x) hT hh hu hrs hx (by omega) hq
   cases y with
   |false=>exact Z5.UU (L:=R) (H0:=fun X=>hm pt q X T l) (X_:=fun X=>hm pt q X T' lim++ []) (Hb:=fun X=>H8 T l X) (VM:=fun X=>H8 T' lim X++ []) c0 vv [0,1,2,3,4,5,6,7,8] 14 (by rfl') (fun X=>by rfl') (fun X=>by rfl') (fun X=>by rfl')
   |true=>exact Z5.UU (L:=R) (H0:=fun X=>hm pt q X T l) (X_:=fun X=>hm pt q X T' lim++ [Z9 x rs.length]) (Hb:=fun X=>H8 T l X) (VM:=fun X=>H8 T' lim X++ [Z9 x rs.length]) c0 vv [0,1,2,3,4,5,6,7,8] 14 (by rfl') (fun X=>by rfl') (fun X=>by rfl') (fun X=>by rfl')
  have hf':(match ZG f lim rs x with|true=>some x|false=>Zf (fun s=>ZG f lim rs s) (x+1) c)=b:=hf
  have Ph:(match ZG f lim rs x with|true=>(T',lim)|false=>RH f lim rs (x+1) T' lim c)=TT:=hcn
  cases hq:ZG f lim rs x with
  |false=>
   rw[hq] at hf' Ph
   have ch:=ch _ hq
   have kk:=Zz (k0:=14) (fl:= .next) (loc:=Mine.put L2 "found" (.d .none)) (YQ:=L1) (H':=H8 T' lim R) (g:= []) (os:= []) (ZL (by rfl') (VK (A:=H7 T' lim R) (B:= []) (by rw[g6];exact⟨T_ hsc (H:=fun X=>H7 T' lim X) fun X=>by rfl',by rfl'⟩))) trivial (SG (by rfl'))
   refine J.trim (Yq:= [.con 589 (.d .none) (H8 T' lim R++ [])]) YA.rf ((ZA hT 24).ss (K:=Zp YA 14 .next L1 (H8 T' lim R)) ?_) fun a σ q=>⟨.next,L1,H8 T' lim R,[],q,⟨c,fU _,x+1,T',lim,(Mk hc).symm,Int.le_add_one hx,yK p6 Cw,hf',Ph,rfl⟩⟩
   exact @cast (Z5 G (n+6) (.Z8 (.ref 552)) [.loc 8,.d (.int x),.d (.int lim)] (H8 T l R) (.d .none) (H8 T' lim R++ [])/\Zp YA 14 .next L1 (H8 T' lim R) .next ⟨Mine.put L2 "found" (.d .none),H8 T' lim R++ [],[]⟩) _ (by rfl') ⟨ch,kk⟩
  |true=>
   rw[hq] at hf' Ph
   have ch:=ch _ hq
   have hb:b=some x:=hf'.symm
   have ht:TT=(T',lim):=Ph.symm
   subst hb
   subst ht
   let H9:List AV->List AO:=fun X=>H7 T' lim X++ [.it false (ZI (x+1) c),Z9 x rs.length]
   have hE:GU (H7 T' lim R) rs.length e (some x)=H9 R:=by
    show H7 T' lim R++ [.it false (ZI (x+1) (e - (x+1)).toNat),Z9 x rs.length]=_
    rw[Mk hc]
   have s9:Y9 15 (H9 R)=true:=VK (A:=H7 T' lim R) (by
    rw[g6];exact⟨T_ hsc (H:=fun X=>H7 T' lim X) fun X=>by rfl',by rfl'⟩)
   have hk:Yl K3 (fun Zq=>∃c',c'<c+1/\∃x_1 AB l_1:Int,c'=(e - x_1).toNat/\0<=x_1/\AB+4*(c':Int)<=50000/\Zf (fun s=>ZG f lim rs s) x_1 c'=some x/\RH f lim rs x_1 AB l_1 c'=(T',lim)/\Zq=S x_1 c' AB l_1) (.ret (.loc 14)) ⟨L1,H9 R,[]⟩:=by
    show Zp YA 13 (.ret (.loc 14)) L1 (GU (H7 T' lim R) rs.length e (some x)) (.ret (.loc 14)) ⟨L1,H9 R,[]⟩
    rw[hE]
    exact(gE (H9 R))▸Zz (g:= []) (ZL (by rfl') s9) (.inl ⟨rfl,rfl⟩) (SG (by rfl'))
   have kk:=Zz (k0:=14) (fl:= .ret (.loc 14)) (loc:=Mine.put L2 "found" (.loc 14)) (YQ:=L1) (H':=H9 R) (g:= []) (os:= []) (ZL (by rfl') s9) (.inl ⟨rfl,rfl⟩) (SG (by rfl'))
   refine J.trim (Yq:= [.con 589 (.loc 14) (H8 T' lim R++ [Z9 x rs.length])]) YA.rf ((ZA hT 24).ss (K:=Zp YA 14 (.ret (.loc 14)) L1 (H9 R)) ?_) fun a σ q=>⟨.ret (.loc 14),L1,H9 R,[],q,hk⟩
   exact @cast (Z5 G (n+6) (.Z8 (.ref 552)) [.loc 8,.d (.int x),.d (.int lim)] (H8 T l R) (.loc 14) (H8 T' lim R++ [Z9 x rs.length])/\Zp YA 14 (.ret (.loc 14)) L1 (H9 R) (.ret (.loc 14)) ⟨Mine.put L2 "found" (.loc 14),H9 R++ [],[]⟩) _ (by rfl') ⟨ch,kk⟩
abbrev AA:Fn:=Zc 65 none ["view","table","place","code","bound","point"] []
abbrev JH:Stmt:=VZ AA 1
theorem Az:JH= .For (VL JH) (LB JH) (Wt JH) [] (FY JH):=by rfl'
abbrev D_ (p bd pt:Int):List (Str×AV):= [("view",.loc 0),("table",.any),("place",.d (.int p)),("code",.loc 6),("bound",.d (.int bd)),("point",.d (.int pt)),("machine",.loc 8)]
def RG (f:Int->Int) (p:Int) (rs:List (Option Int)) (x T l0:Int):Nat->Int×Int
 |0=>(T,l0)
 |k+1=>match ZG f p rs x with|true=>(Xa f p rs x T,p)|false=>RG f p rs (x - 1) (Xa f p rs x T) p k
abbrev GS (H:List AO) (m e:Int):Option Int->List AO|none=>H|some s=>H++ [.it false (Yp (s - 1) (s - 1 - e).toNat),Z9 s m]
set_option tactic.hygienic true in
theorem D9 {n:Nat}{us:List Int}{pt p bd:Int}{q:BB}{rs:List (Option Int)}{b:Option Int}{TT:Int×Int}(hT:ZY G T0) (hh:Holds us q.bz q.zv q.gs q.cs) (hu:∀u∈us,isLt u) (hrs:1<=rs.length/\rs.length<=3) (hp:0<=p/\p<=1000) (hz: -1000<=max bd q.bz/\max bd q.bz<=1000)
  (hr:Zi (fun s=>ZG (ZV us q.bz q.zv) p rs s) p (p - (max bd q.bz - 1)).toNat=b) (ht:RG (ZV us q.bz q.zv) p rs p 0 0 (p - (max bd q.bz - 1)).toNat=TT):
  Wb G (n+6) (fm AA) JH (D_ p bd pt) (hR pt q (Z7 rs) 0 0) (sV b) (D_ p bd pt) (GS (hR pt q (Z7 rs) TT.1 TT.2) rs.length (max bd q.bz - 1) b):=by
 have jE:0<=max bd q.bz - 1:=Int.sub_nonneg_of_le (gf hh.b (Int.le_max_right _ _))
 generalize he:max bd q.bz - 1=e at*
 let f:=ZV us q.bz q.zv
 let H7:Int->Int->List AV->List AO:=fun T l X=>hR pt q X T l
 let R:=Z7 rs
 have hsc:Zm R:=YU rs
 have vv:∀r,Yk r R=R:=fun r=>YO rs
 let L1:=D_ p bd pt
 let K3:Zk->St->Prop:=Zp YA 13 (sV b) L1 (GS (H7 TT.1 TT.2 R) rs.length e b)
 let S:Int->Nat->Int->Int->St:=fun x c T l=>⟨L1,H7 T l R++ [.it false (Yp x c)],[]⟩
 refine WI (F:=24) (os:= [.k 595,.k 0]) hT Az (by rfl') ?_
 have hsl:∀i:Int, -2000<=i/\i<=2000->QE i=true:=fun i hi=>fT (VY hi (by decide))
 have hsm:∀i:Int, -2000<=i/\i<=2000->Y6 i=true:=fun i hi=>fT (VY hi (by decide))
 refine @cast ((match QE p with|true=>QE (max bd q.bz - 1)|false=>false)=true/\(match Y6 p with|true=>Y6 (max bd q.bz - 1)|false=>false)=true/\Kw G (n+6) (fm AA) 13 (VL JH) (Wt JH) (S p (p - (max bd q.bz - 1)).toNat 0 0) K3) _ (by rfl') ⟨?_,?_,?_⟩
 ·rw[hsl p (by omega)];exact hsl _ (by omega)
 ·rw[hsm p (by omega)];exact hsm _ (by omega)
 rw[he]
 refine Wo (fun c σ=>∃x T l:Int,c=(x - e).toNat/\0<=x/\T+4*(c:Int)<=50000/\Zi (fun s=>ZG f p rs s) x c=b/\RG f p rs x T l c=TT/\σ=S x c T l) ?_ (p - e).toNat ⟨p,0,0,rfl,hp.1,by omega,hr,ht,rfl⟩
 rintro c _ ⟨x,T,l,hc,hx,p6,hf,hcn,rfl⟩
 refine Qs (σ:=S x c T l) (k:=13) (by rfl') rfl ?_
 cases c with
 |zero=>
  have hb:b=none:=hf.symm
  have ht:TT=(T,l):=hcn.symm
  subst hb
  subst ht
  refine Zz (g:= [.gone]) (J8 hsc (H:=fun X=>H7 T l X) fun X=>by rfl') trivial (SG (by rfl'))
 |succ c=>
  let T':=Xa f p rs x T
  have Cw:T'<=T+4:=by have:=Pj (f:=f) (lim:=p) (rs:=rs) (p:=x) (T:=T);have:=hrs.2;omega
  let H8:Int->Int->List AV->List AO:=fun T l X=>H7 T l X++ [.it false (Yp (x - 1) c)]
  let L2:List (Str×AV):=Mine.put L1 "start" (.d (.int x))
  show Rg G (n+6) (fm AA) (VL JH) (.d (.int x)) ⟨L1,H8 T l R,[]⟩ _ Zn
  refine(ZA hT 16).a ?_
  refine @cast (X0 G (n+6) (fm AA) (Wt JH) ⟨L2,H8 T l R,[]⟩ (Yl K3 fun Zq=>∃c',c'<c+1/\∃x T l:Int,c'=(x - e).toNat/\0<=x/\T+4*(c':Int)<=50000/\Zi (fun s=>ZG f p rs s) x c'=b/\RG f p rs x T l c'=TT/\Zq=S x c' T l) Zn) _ (by rfl') ?_
  have ch:∀y,ZG f p rs x=y->Z5 G (n+6) (.Z8 (.ref 552)) [.loc 8,.d (.int x),.d (.int p)] (H8 T l R) (resB 14 y) (H8 T' p R++GV x rs.length y):=fun y hq=>by
   have c0:=vz (n:=n) (pt:=pt) (q:=q) (l0:=l) (T:=T) (lim:=p) (p:=x) hT hh hu hrs hx (by omega) hq
   cases y with
   |false=>exact Z5.UU (L:=R) (H0:=fun X=>hm pt q X T l) (X_:=fun X=>hm pt q X T' p++ []) (Hb:=fun X=>H8 T l X) (VM:=fun X=>H8 T' p X++ []) c0 vv [0,1,2,3,4,5,6,7,8] 14 (by rfl') (fun X=>by rfl') (fun X=>by rfl') (fun X=>by rfl')
   |true=>exact Z5.UU (L:=R) (H0:=fun X=>hm pt q X T l) (X_:=fun X=>hm pt q X T' p++ [Z9 x rs.length]) (Hb:=fun X=>H8 T l X) (VM:=fun X=>H8 T' p X++ [Z9 x rs.length]) c0 vv [0,1,2,3,4,5,6,7,8] 14 (by rfl') (fun X=>by rfl') (fun X=>by rfl') (fun X=>by rfl')
  have hf':(match ZG f p rs x with|true=>some x|false=>Zi (fun s=>ZG f p rs s) (x - 1) c)=b:=hf
  have Ph:(match ZG f p rs x with|true=>(T',p)|false=>RG f p rs (x - 1) T' p c)=TT:=hcn
  cases hq:ZG f p rs x with
  |false=>
   rw[hq] at hf' Ph
   have ch:=ch _ hq
   have kk:=Zz (k0:=14) (fl:= .next) (loc:=Mine.put L2 "found" (.d .none)) (YQ:=L1) (H':=H8 T' p R) (g:= []) (os:= []) (ZL (by rfl') (Vr (A:=H7 T' p R) (B:= []) (by rw[g6];exact⟨T_ hsc (H:=fun X=>H7 T' p X) fun X=>by rfl',by rfl'⟩))) trivial (SG (by rfl'))
   refine J.trim (Yq:= [.con 596 (.d .none) (H8 T' p R++ [])]) YA.rf ((ZA hT 24).ss (K:=Zp YA 14 .next L1 (H8 T' p R)) ?_) fun a σ q=>⟨.next,L1,H8 T' p R,[],q,⟨c,fU _,x - 1,T',p,(Mj hc).symm,B4 jE hc,yK p6 Cw,hf',Ph,rfl⟩⟩
   exact @cast (Z5 G (n+6) (.Z8 (.ref 552)) [.loc 8,.d (.int x),.d (.int p)] (H8 T l R) (.d .none) (H8 T' p R++ [])/\Zp YA 14 .next L1 (H8 T' p R) .next ⟨Mine.put L2 "found" (.d .none),H8 T' p R++ [],[]⟩) _ (by rfl') ⟨ch,kk⟩
  |true=>
   rw[hq] at hf' Ph
   have ch:=ch _ hq
   have hb:b=some x:=hf'.symm
   have ht:TT=(T',p):=Ph.symm
   subst hb
   subst ht
   let H9:List AV->List AO:=fun X=>H7 T' p X++ [.it false (Yp (x - 1) c),Z9 x rs.length]
   have hE:GS (H7 T' p R) rs.length e (some x)=H9 R:=by
    show H7 T' p R++ [.it false (Yp (x - 1) (x - 1 - e).toNat),Z9 x rs.length]=_
    rw[Mj hc]
   have s9:Y9 15 (H9 R)=true:=Vr (A:=H7 T' p R) (by
    rw[g6];exact⟨T_ hsc (H:=fun X=>H7 T' p X) fun X=>by rfl',by rfl'⟩)
   have hk:Yl K3 (fun Zq=>∃c',c'<c+1/\∃x_1 AB l_1:Int,c'=(x_1 - e).toNat/\0<=x_1/\AB+4*(c':Int)<=50000/\Zi (fun s=>ZG f p rs s) x_1 c'=some x/\RG f p rs x_1 AB l_1 c'=(T',p)/\Zq=S x_1 c' AB l_1) (.ret (.loc 14)) ⟨L1,H9 R,[]⟩:=by
    show Zp YA 13 (.ret (.loc 14)) L1 (GS (H7 T' p R) rs.length e (some x)) (.ret (.loc 14)) ⟨L1,H9 R,[]⟩
    rw[hE]
    exact(gE (H9 R))▸Zz (g:= []) (ZL (by rfl') s9) (.inl ⟨rfl,rfl⟩) (SG (by rfl'))
   have kk:=Zz (k0:=14) (fl:= .ret (.loc 14)) (loc:=Mine.put L2 "found" (.loc 14)) (YQ:=L1) (H':=H9 R) (g:= []) (os:= []) (ZL (by rfl') s9) (.inl ⟨rfl,rfl⟩) (SG (by rfl'))
   refine J.trim (Yq:= [.con 596 (.loc 14) (H8 T' p R++ [Z9 x rs.length])]) YA.rf ((ZA hT 24).ss (K:=Zp YA 14 (.ret (.loc 14)) L1 (H9 R)) ?_) fun a σ q=>⟨.ret (.loc 14),L1,H9 R,[],q,hk⟩
   exact @cast (Z5 G (n+6) (.Z8 (.ref 552)) [.loc 8,.d (.int x),.d (.int p)] (H8 T l R) (.loc 14) (H8 T' p R++ [Z9 x rs.length])/\Zp YA 14 (.ret (.loc 14)) L1 (H9 R) (.ret (.loc 14)) ⟨Mine.put L2 "found" (.loc 14),H9 R++ [],[]⟩) _ (by rfl') ⟨ch,kk⟩
abbrev zb (pt:Int) (q:BB) (X:List AV):List AO:=h8 pt q X++ [Oc 0 0 pt (.loc 9) (.loc 10) (.loc 11) (.loc 12)]++four
theorem p5 {n:Nat}{us:List Int}{pt p bd:Int}{q:BB}{rs:List (Option Int)}(hT:ZY G T0) (hh:Holds us q.bz q.zv q.gs q.cs) (hu:∀u∈us,isLt u) (hrs:1<=rs.length/\rs.length<=3) (hp:0<=p/\p<=1000) (hz: -1000<=min bd q.zv/\min bd q.zv<=1000) {o:Option Int}
  (ho:Zf (fun s=>ZG (ZV us q.bz q.zv) (min bd q.zv) rs s) p (min bd q.zv+1 - p).toNat=o):
  Z5 G (n+7) (.Z8 (.ref 641)) [.loc 0,.any,.d (.int p),.loc 6,.d (.int bd),.d (.int pt)] (h8 pt q (Z7 rs)) (Xv 8 o) (h8 pt q (Z7 rs)++YE rs.length o):=by
 generalize ht:RH (ZV us q.bz q.zv) (min bd q.zv) rs p 0 0 (min bd q.zv+1 - p).toNat=TT
 have hsc:Zm (Z7 rs):=YU rs
 have c:=(Ea (n:=n) (pt:=pt) (q:=q) (bd:=bd) hT hh hu hrs hp hz ho ht).pre (H0:=zb pt q (Z7 rs)) 8 ann (by rfl') (T_ hsc (H:=fun X=>hR pt q X 0 0) fun X=>by rfl')
 clear ho ht
 let H8:List AV->List AO:=fun X=>h8 pt q X
 cases o with
 |none=>
  show Z5 G (n+7) _ _ (H8 (Z7 rs)) (.d .none) (H8 (Z7 rs)++ [])
  rw[gE]
  exact YY (F:=24) hT (J8 hsc (H:=fun X=>H8 X) fun X=>by rfl') [.cut 588 .next (Eb p bd pt (min bd q.zv)) (hR pt q (Z7 rs) TT.1 TT.2)] (fun loc=>Wb G (n+6) (fm AE) JI (Eb p bd pt (min bd q.zv)) (zb pt q (Z7 rs)) .next (Eb p bd pt (min bd q.zv)) (hR pt q (Z7 rs) TT.1 TT.2)/\Post loc (.d .none) (H8 (Z7 rs)) (.d .none) ⟨loc,H8 (Z7 rs)++(Oc TT.1 TT.2 pt .any .any .any .any::four),[]⟩) (fun loc=>by rfl') fun loc=>⟨c,XG rfl⟩
 |some s=>
  let H1:List AV->List AO:=fun X=>GU (hR pt q X TT.1 TT.2) rs.length (min bd q.zv+1) (some s)
  have k:Z5 G (n+7) (.Z8 (.ref 641)) [.loc 0,.any,.d (.int p),.loc 6,.d (.int bd),.d (.int pt)] (H8 (Z7 rs)) (.loc 14) (H1 (Z7 rs)):=
   YY (F:=24) hT (ZL (H':=H1 (Z7 rs)) (by rfl') (VK (by rw[g6];exact⟨T_ hsc (H:=fun X=>hR pt q X TT.1 TT.2) fun X=>by rfl',by rfl'⟩))) [.cut 588 (.ret (.loc 14)) (Eb p bd pt (min bd q.zv)) (H1 (Z7 rs))] (fun loc=>Wb G (n+6) (fm AE) JI (Eb p bd pt (min bd q.zv)) (zb pt q (Z7 rs)) (.ret (.loc 14)) (Eb p bd pt (min bd q.zv)) (H1 (Z7 rs))/\Post loc (.loc 14) (H1 (Z7 rs)) (.loc 14) ⟨loc,H1 (Z7 rs),[]⟩) (fun loc=>by rfl') fun loc=>⟨c,Z1 (by rfl')⟩
  exact Z5.Cx (L:=Z7 rs) (H:=H8) (H1:=H1) (H':=fun X=>H8 X++ [Z9 s rs.length]) k (fun r=>YO rs) [0,1,2,3,4,5,6,7,14] 15 (fun X=>by rfl') (by rfl') (fun X=>by rfl') (by rfl')
theorem pZ {n:Nat}{us:List Int}{pt p bd:Int}{q:BB}{rs:List (Option Int)}(hT:ZY G T0) (hh:Holds us q.bz q.zv q.gs q.cs) (hu:∀u∈us,isLt u) (hrs:1<=rs.length/\rs.length<=3) (hp:0<=p/\p<=1000) (hz: -1000<=max bd q.bz/\max bd q.bz<=1000) {o:Option Int}
  (ho:Zi (fun s=>ZG (ZV us q.bz q.zv) p rs s) p (p - (max bd q.bz - 1)).toNat=o):
  Z5 G (n+7) (.Z8 (.ref 648)) [.loc 0,.any,.d (.int p),.loc 6,.d (.int bd),.d (.int pt)] (h8 pt q (Z7 rs)) (Xv 8 o) (h8 pt q (Z7 rs)++YE rs.length o):=by
 generalize ht:RG (ZV us q.bz q.zv) p rs p 0 0 (p - (max bd q.bz - 1)).toNat=TT
 have hsc:Zm (Z7 rs):=YU rs
 have c:=(D9 (n:=n) (pt:=pt) (q:=q) (bd:=bd) hT hh hu hrs hp hz ho ht).pre (H0:=zb pt q (Z7 rs)) 8 ann (by rfl') (T_ hsc (H:=fun X=>hR pt q X 0 0) fun X=>by rfl')
 clear ho ht
 let H8:List AV->List AO:=fun X=>h8 pt q X
 cases o with
 |none=>
  show Z5 G (n+7) _ _ (H8 (Z7 rs)) (.d .none) (H8 (Z7 rs)++ [])
  rw[gE]
  exact YY (F:=24) hT (J8 hsc (H:=fun X=>H8 X) fun X=>by rfl') [.cut 595 .next (D_ p bd pt) (hR pt q (Z7 rs) TT.1 TT.2)] (fun loc=>Wb G (n+6) (fm AA) JH (D_ p bd pt) (zb pt q (Z7 rs)) .next (D_ p bd pt) (hR pt q (Z7 rs) TT.1 TT.2)/\Post loc (.d .none) (H8 (Z7 rs)) (.d .none) ⟨loc,H8 (Z7 rs)++(Oc TT.1 TT.2 pt .any .any .any .any::four),[]⟩) (fun loc=>by rfl') fun loc=>⟨c,XG rfl⟩
 |some s=>
  let H1:List AV->List AO:=fun X=>GS (hR pt q X TT.1 TT.2) rs.length (max bd q.bz - 1) (some s)
  have k:Z5 G (n+7) (.Z8 (.ref 648)) [.loc 0,.any,.d (.int p),.loc 6,.d (.int bd),.d (.int pt)] (H8 (Z7 rs)) (.loc 14) (H1 (Z7 rs)):=
   YY (F:=24) hT (ZL (H':=H1 (Z7 rs)) (by rfl') (Vr (by rw[g6];exact⟨T_ hsc (H:=fun X=>hR pt q X TT.1 TT.2) fun X=>by rfl',by rfl'⟩))) [.cut 595 (.ret (.loc 14)) (D_ p bd pt) (H1 (Z7 rs))] (fun loc=>Wb G (n+6) (fm AA) JH (D_ p bd pt) (zb pt q (Z7 rs)) (.ret (.loc 14)) (D_ p bd pt) (H1 (Z7 rs))/\Post loc (.loc 14) (H1 (Z7 rs)) (.loc 14) ⟨loc,H1 (Z7 rs),[]⟩) (fun loc=>by rfl') fun loc=>⟨c,Z1 (by rfl')⟩
  exact Z5.Cx (L:=Z7 rs) (H:=H8) (H1:=H1) (H':=fun X=>H8 X++ [Z9 s rs.length]) k (fun r=>YO rs) [0,1,2,3,4,5,6,7,14] 15 (fun X=>by rfl') (by rfl') (fun X=>by rfl') (by rfl')
def Oa (c:Int):D:=match decide (c=46) with|true=> .tup [.str "any"]|false=> .tup [.str "char",.int c]
def Yg (c:Int):Option Int:=match decide (c=46) with|true=>none|false=>some (Xp c)
abbrev Cv (d:D):AV:= .d (.tup [.str "node",d])
abbrev Ay (k:Nat):AO:= .inst 383 [("rows",.loc k),("groups",.d (.int 0)),("marks",.d (.int 0)),("folds",.d (.bool true))]
abbrev hK (i:Int) (ws:List Int) (X nd:List AV) (wt:AO) (md:List AO) (k:Nat):List AO:= [.Z_ ws,.inst 354 [("codes",.loc 0),("place",.d (.int i)),("frames",.loc 5),("groups",.d (.int 0))],.inst 230 [("word",.d (.str "top")),("number",.d (.int 0)),("done",.loc 3),("nodes",.loc 4),("is_loose",.d (.bool false))],.Z_ [],.list nd,.list [.loc 2],.Z_ [],.inst 465 [("folds",.d (.bool true)),("rows",.loc 8),("places",.loc 9),("labels",.d (.int 0)),("marks",.d (.int 0)),("waiting",.loc 10)],.list X,.dict [],.list [],wt]++md++ [.list X,.gone,Ay k]
abbrev pY:AV:= .d (.tup [.str "row",.tup [.str "done"]])
abbrev jD (a:Int):List AO:=hK 1 [a] (Z7 [Yg a]) [.d (Oa a)] (.list [Cv (Oa a),pY]) [.gone,.Z_ [],.Z_ [],.Z_ []] 16
abbrev jC (a b:Int):List AO:=hK 2 [a,b] (Z7 [Yg a,Yg b]) [.d (Oa a),.d (Oa b)] (.list [Cv (.tup [.str "seq",.tup [Oa a,Oa b]]),pY]) [.gone,.Z_ [],.gone,.list [Cv (Oa a),Cv (Oa b)],.gone,.Z_ [],.Z_ [],.Z_ [],.Z_ []] 21
abbrev jB (a b c:Int):List AO:=hK 3 [a,b,c] (Z7 [Yg a,Yg b,Yg c]) [.d (Oa a),.d (Oa b),.d (Oa c)] (.list [Cv (.tup [.str "seq",.tup [Oa a,Oa b,Oa c]]),pY]) [.gone,.Z_ [],.gone,.list [Cv (Oa a),Cv (Oa b),Cv (Oa c)],.gone,.Z_ [],.Z_ [],.Z_ [],.Z_ [],.Z_ []] 22
theorem VG {n F:Nat}{f:AV}{as:List AV}{H H':List AO}{r:AV}(hT:ZY G T0) (hs:(gK H.length H'.length && (Y9 H'.length H' && r.sc H'.length))=true)
  (e:∀loc,Post loc r H' r ⟨loc,H',[]⟩=(ev G T0 F).c n 0 f as ⟨loc,H,[]⟩ (Post loc r H')):Z5 G n f as H r H':=by
 obtain ⟨a,b⟩:=g6.mp hs
 obtain ⟨b,c⟩:=g6.mp b
 exact YY (F:=F) hT (ZL a b) [] _ e fun loc=>Z1 c
def Qq (c:Int):Prop:=c=97\/c=65\/c=98\/c=46
abbrev hC (ws:List Int):List AO:= [.Z_ ws,Ay 2,.list (Z7 (ws.map Yg))]
abbrev W4:List Int:= [97,65,98,46]
theorem TZ {c:Int}(h:Qq c):c∈W4:=by
 rcases h with rfl|rfl|rfl|rfl
 ·exact .head _
 ·exact .tail _ (.head _)
 ·exact .tail _ (.tail _ (.head _))
 ·exact .tail _ (.tail _ (.tail _ (.head _)))
theorem Pg {ι:Type}{n F:Nat}{f:AV}{as:List AV}{r:AV}(L:List ι) (H H':ι->List AO) (hT:ZY G T0) (hs:(L.map fun t=>gK (H t).length (H' t).length && (Y9 (H' t).length (H' t) && r.sc (H' t).length))=L.map fun _=>true)
  (e:∀loc,(L.map fun t=>Post loc r (H' t) r ⟨loc,H' t,[]⟩)=L.map fun t=>(ev G T0 F).c n 0 f as ⟨loc,H t,[]⟩ (Post loc r (H' t))) {t:ι}(ht:t∈L):Z5 G n f as (H t) r (H' t):=VG hT (Zh hs ht) fun loc=>Zh (e loc) ht
theorem D8 {n:Nat}{a:Int}(hT:ZY G T0) (ha:Qq a):Z5 G (n+9) (.Z8 (.ref 483)) [.loc 0,.d (.bool true)] [.Z_ [a]] (.loc 1) (hC [a]):=
 (Pg (F:=100) (r:= .loc 18) W4 (fun a=> [.Z_ [a]]) jD hT (by rfl') (fun loc=>by rfl') (TZ ha)).anew [0,18,16] (by rfl') (by rfl') (by rfl')
theorem D7 {n:Nat}{a b:Int}(hT:ZY G T0) (ha:Qq a) (hb:Qq b):Z5 G (n+9) (.Z8 (.ref 483)) [.loc 0,.d (.bool true)] [.Z_ [a,b]] (.loc 1) (hC [a,b]):=
 (Pg (F:=100) (r:= .loc 23) (t:=(a,b)) (W4.flatMap fun a=>W4.map fun b=>(a,b)) (fun t=> [.Z_ [t.1,t.2]]) (fun t=>jC t.1 t.2) hT (by rfl') (fun loc=>by rfl') (List.mem_flatMap.mpr ⟨a,TZ ha,dX.mpr ⟨b,TZ hb,rfl⟩⟩)).anew [0,23,21] (by rfl') (by rfl') (by rfl')
theorem D6 {n:Nat}{a b c:Int}(hT:ZY G T0) (ha:Qq a) (hb:Qq b) (hc:Qq c):Z5 G (n+9) (.Z8 (.ref 483)) [.loc 0,.d (.bool true)] [.Z_ [a,b,c]] (.loc 1) (hC [a,b,c]):=
 (Pg (F:=100) (r:= .loc 24) (t:=(a,b,c)) (W4.flatMap fun a=>W4.flatMap fun b=>W4.map fun c=>(a,b,c)) (fun t=> [.Z_ [t.1,t.2.1,t.2.2]]) (fun t=>jB t.1 t.2.1 t.2.2) hT (by rfl') (fun loc=>by rfl') (List.mem_flatMap.mpr ⟨a,TZ ha,List.mem_flatMap.mpr ⟨b,TZ hb,dX.mpr ⟨c,TZ hc,rfl⟩⟩⟩)).anew [0,24,22] (by rfl') (by rfl') (by rfl')
theorem Mz {n:Nat}{ws:List Int}(hT:ZY G T0) (hl:1<=ws.length/\ws.length<=3) (hw:∀w∈ws,Qq w):Z5 G (n+9) (.Z8 (.ref 483)) [.loc 0,.d (.bool true)] [.Z_ ws] (.loc 1) (hC ws):=by
 cases ws with
 |nil=>exact absurd hl.1 (Nat.not_succ_le_zero 0)
 |cons a r=>
  have ha:=hw a (.head _)
  cases r with
  |nil=>exact D8 hT ha
  |cons b r=>
   have hb:=hw b (.tail _ (.head _))
   cases r with
   |nil=>exact D7 hT ha hb
   |cons c r=>
    have hc:=hw c (.tail _ (.tail _ (.head _)))
    cases r with
    |nil=>exact D6 hT ha hb hc
    |cons d r=>exact absurd hl.2 (Nat.not_le_of_gt (Nat.le_add_left 4 r.length))
abbrev UE (a b c d e:Nat):AV:= .YV ["place"] (Ed vI) (Ly vI) [("table",a),("point",b),("high",c),("code",d),("buffer",e)]
abbrev Wa (a b c d e:Nat):AV:= .YV ["place"] (Ed vH) (Ly vH) [("table",a),("point",b),("low",c),("code",d),("buffer",e)]
abbrev RE (pt bd:Int):List AO:= [.cell (some .any),.cell (some (.d (.int pt))),.cell (some (.d (.int bd))),.cell (some (.loc 6)),.cell (some (.loc 0))]
abbrev YH (pt:Int) (q:BB) (bd:Int) (X:List AV):List AO:=h8 pt q X++RE pt bd
theorem D5 {n:Nat}{us:List Int}{pt p bd:Int}{q:BB}{rs:List (Option Int)}(hT:ZY G T0) (hh:Holds us q.bz q.zv q.gs q.cs) (hu:∀u∈us,isLt u) (hrs:1<=rs.length/\rs.length<=3) (hp:0<=p/\p<=1000) (hz: -1000<=min bd q.zv/\min bd q.zv<=1000) {o:Option Int}
  (ho:Zf (fun s=>ZG (ZV us q.bz q.zv) (min bd q.zv) rs s) p (min bd q.zv+1 - p).toNat=o):
  Z5 G (n+8) (UE 8 9 10 11 12) [.d (.int p)] (YH pt q bd (Z7 rs)) (Xv 13 o) (YH pt q bd (Z7 rs)++YE rs.length o):=by
 have hsc:Zm (Z7 rs):=YU rs
 let H:List AV->List AO:=fun X=>YH pt q bd X
 have s8:(Y9 8 (h8 pt q (Z7 rs)) && true)=true:=by rw[T_ hsc (H:=fun X=>h8 pt q X) fun X=>by rfl'];rfl
 have c:=p5 (n:=n) (pt:=pt) (q:=q) hT hh hu hrs hp hz ho
 clear ho
 have k:Z5 G (n+7) (.Z8 (.ref 641)) [.loc 0,.any,.d (.int p),.loc 6,.d (.int bd),.d (.int pt)] (H (Z7 rs)) (Xv 13 o) (H (Z7 rs)++YE rs.length o):=by
  cases o with
  |none=>exact Z5.ext (E:=RE pt bd) (N:= []) (N':= []) c s8 (by rfl')
  |some s=>exact Z5.ext (E:=RE pt bd) (N:= [Z9 s rs.length]) (N':= [Z9 s rs.length]) c s8 (by rfl')
 have sH:(true && Y9 13 (H (Z7 rs)))=true:=J8 hsc (H:=H) fun X=>by rfl'
 cases o with
 |none=>
  have k:Z5 G (n+7) (.Z8 (.ref 641)) [.loc 0,.any,.d (.int p),.loc 6,.d (.int bd),.d (.int pt)] (H (Z7 rs)) (.d .none) (H (Z7 rs)++ []):=k
  rw[gE] at k
  show Z5 G (n+8) _ _ (H (Z7 rs)) (.d .none) (H (Z7 rs)++ [])
  rw[gE]
  exact YY (F:=16) hT sH [.con 716 (.d .none) (H (Z7 rs))] (fun loc=>Z5 G (n+7) (.Z8 (.ref 641)) [.loc 0,.any,.d (.int p),.loc 6,.d (.int bd),.d (.int pt)] (H (Z7 rs)) (.d .none) (H (Z7 rs))/\Post loc (.d .none) (H (Z7 rs)) (.d .none) ⟨loc,H (Z7 rs),[]⟩) (fun loc=>by rfl') fun loc=>⟨k,Z1 rfl⟩
 |some s=>
  exact YY (F:=16) hT (VI (H:=H (Z7 rs)) (M:= [Z9 s rs.length]) sH (by rfl')) [.con 716 (.loc 13) (H (Z7 rs)++ [Z9 s rs.length])] (fun loc=>Z5 G (n+7) (.Z8 (.ref 641)) [.loc 0,.any,.d (.int p),.loc 6,.d (.int bd),.d (.int pt)] (H (Z7 rs)) (.loc 13) (H (Z7 rs)++ [Z9 s rs.length])/\Post loc (.loc 13) (H (Z7 rs)++ [Z9 s rs.length]) (.loc 13) ⟨loc,H (Z7 rs)++ [Z9 s rs.length],[]⟩) (fun loc=>by rfl') fun loc=>⟨k,Z1 (by rfl')⟩
theorem D4 {n:Nat}{us:List Int}{pt p bd:Int}{q:BB}{rs:List (Option Int)}(hT:ZY G T0) (hh:Holds us q.bz q.zv q.gs q.cs) (hu:∀u∈us,isLt u) (hrs:1<=rs.length/\rs.length<=3) (hp:0<=p/\p<=1000) (hz: -1000<=max bd q.bz/\max bd q.bz<=1000) {o:Option Int}
  (ho:Zi (fun s=>ZG (ZV us q.bz q.zv) p rs s) p (p - (max bd q.bz - 1)).toNat=o):
  Z5 G (n+8) (Wa 8 9 10 11 12) [.d (.int p)] (YH pt q bd (Z7 rs)) (Xv 13 o) (YH pt q bd (Z7 rs)++YE rs.length o):=by
 have hsc:Zm (Z7 rs):=YU rs
 let H:List AV->List AO:=fun X=>YH pt q bd X
 have s8:(Y9 8 (h8 pt q (Z7 rs)) && true)=true:=by rw[T_ hsc (H:=fun X=>h8 pt q X) fun X=>by rfl'];rfl
 have c:=pZ (n:=n) (pt:=pt) (q:=q) hT hh hu hrs hp hz ho
 clear ho
 have k:Z5 G (n+7) (.Z8 (.ref 648)) [.loc 0,.any,.d (.int p),.loc 6,.d (.int bd),.d (.int pt)] (H (Z7 rs)) (Xv 13 o) (H (Z7 rs)++YE rs.length o):=by
  cases o with
  |none=>exact Z5.ext (E:=RE pt bd) (N:= []) (N':= []) c s8 (by rfl')
  |some s=>exact Z5.ext (E:=RE pt bd) (N:= [Z9 s rs.length]) (N':= [Z9 s rs.length]) c s8 (by rfl')
 have sH:(true && Y9 13 (H (Z7 rs)))=true:=J8 hsc (H:=H) fun X=>by rfl'
 cases o with
 |none=>
  have k:Z5 G (n+7) (.Z8 (.ref 648)) [.loc 0,.any,.d (.int p),.loc 6,.d (.int bd),.d (.int pt)] (H (Z7 rs)) (.d .none) (H (Z7 rs)++ []):=k
  rw[gE] at k
  show Z5 G (n+8) _ _ (H (Z7 rs)) (.d .none) (H (Z7 rs)++ [])
  rw[gE]
  exact YY (F:=16) hT sH [.con 718 (.d .none) (H (Z7 rs))] (fun loc=>Z5 G (n+7) (.Z8 (.ref 648)) [.loc 0,.any,.d (.int p),.loc 6,.d (.int bd),.d (.int pt)] (H (Z7 rs)) (.d .none) (H (Z7 rs))/\Post loc (.d .none) (H (Z7 rs)) (.d .none) ⟨loc,H (Z7 rs),[]⟩) (fun loc=>by rfl') fun loc=>⟨k,Z1 rfl⟩
 |some s=>
  exact YY (F:=16) hT (VI (H:=H (Z7 rs)) (M:= [Z9 s rs.length]) sH (by rfl')) [.con 718 (.loc 13) (H (Z7 rs)++ [Z9 s rs.length])] (fun loc=>Z5 G (n+7) (.Z8 (.ref 648)) [.loc 0,.any,.d (.int p),.loc 6,.d (.int bd),.d (.int pt)] (H (Z7 rs)) (.loc 13) (H (Z7 rs)++ [Z9 s rs.length])/\Post loc (.loc 13) (H (Z7 rs)++ [Z9 s rs.length]) (.loc 13) ⟨loc,H (Z7 rs)++ [Z9 s rs.length],[]⟩) (fun loc=>by rfl') fun loc=>⟨k,Z1 (by rfl')⟩
theorem GR {n:Nat}(hT:ZY G T0):Z5 G (n+9) (.Z8 (.ref 799)) [] [] .any []:=by
 refine Z5.mk rfl rfl fun loc=>⟨[],?_⟩
 have h:Ve G (n+9) (.Z8 (.ref 799)) [] ⟨loc,[],[]⟩ (fun _ ZH=>ZH.loc=loc) Zn:=(ZA hT 120).c (l:=0) (@cast (loc=loc) _ (by rfl') rfl)
 intro L fs ω fv vs rf rv
 exact Pt.imp (h rf rv) (fun a σ e=>⟨e,.inr rfl,σ.hp,rfl⟩) fun _ _ x=>x
theorem My {L M:List AV}(hl:Zm L) (hm:Zm M) {H:List AV->List AV->List AO}{b:Bool}{K:Nat}(h:∀X Y,(b && Y9 K (H X Y))=((X.all fun x=>x.sc K) && ((Y.all fun x=>x.sc K) && true))):(b && Y9 K (H L M))=true:=by
 rw[h L M,hl K,hm K];rfl
abbrev Nx (mb:AO):List AO:= [.tab 827 "re_search_by.<locals>.<lambda>",AL 9 12 13 18 14 15 16 17,AK 10 11,.dict [(1,.loc 0)],.Z_ [1],.dict [],.Z_ [],.dict [],.dict [],.inst 1340 [("sort",.d (.str "")),("many",.d (.int 0))],.Z_ [],mb]
abbrev hE (pt:Int) (q:BB) (ws:List Int) (j:Nat) (l:List AV):List AO:=Ym pt q ws++Nx (AG j)++ [.list l]
abbrev WU:AO:= .cell none
abbrev ZP:List AO:= [WU,WU,WU,WU,WU,WU]
abbrev Zu:List AO:= [WU,WU,WU,WU,.cell (some (.loc 26)),.cell (some (.loc 0))]
abbrev RD (pt bz zv:Int):List AO:= [.cell (some .any),.cell (some (.d (.int pt))),.cell (some (.d (.int bz))),.cell (some (.d (.int zv))),.cell (some (.loc 26)),.cell (some (.loc 0))]
abbrev Xu (X:List AV):List AO:= [Ay 27,.list X]
theorem UD {n:Nat}{ws:List Int}{pt:Int}{q:BB}{l:List AV}(hT:ZY G T0) (hl:Zm l) (hw:1<=ws.length/\ws.length<=3) (Qp:∀w∈ws,Qq w):
  Z5 G (n+9) (.Z8 (.ref 1365)) [.loc 8] (hE pt q ws 19 l++ZP) (.loc 0) (hE pt q ws 19 l++ZP)/\
  Z5 G (n+9) (.Z8 (.ref 483)) [.loc 6,.d (.bool true)] (hE pt q ws 19 l++ZP) (.loc 26) (hE pt q ws 19 l++ZP++Xu (Z7 (ws.map Yg)))/\
  Z5 G (n+10) (.Z8 (.ref 806)) [.loc 0] (hE pt q ws 19 l++Zu++Xu (Z7 (ws.map Yg))) .any (hE pt q ws 19 l++Zu++Xu (Z7 (ws.map Yg))):=by
 let R:=Z7 (ws.map Yg)
 have hR:Zm R:=YU _
 refine⟨?_,?_,?_⟩
 ·exact YY (F:=20) hT (J8 hl (H:=fun X=>hE pt q ws 19 X++ZP) fun X=>by rfl') [] (fun loc=>Post loc (.loc 0) (hE pt q ws 19 l++ZP) (.loc 0) ⟨loc,hE pt q ws 19 l++ZP,[]⟩) (fun loc=>by rfl') fun loc=>Z1 (by rfl')
 ·have c:=Mz (n:=n) hT hw Qp
  exact Z5.UU (L:=R) (H0:=fun X=> [.Z_ ws]) (X_:=fun X=> [.Z_ ws,Ay 2,.list X]) (Hb:=fun X=>hE pt q ws 19 l++ZP) (VM:=fun X=>hE pt q ws 19 l++ZP++Xu X) c (fun r=>YO _) [6] 26 (by rfl') (fun X=>by rfl') (fun X=>by rfl') (fun X=>by rfl')
 ·have s:Z5 G (n+9) (.Z8 (.ref 799)) [] (hE pt q ws 19 l++Zu++Xu R) .any (hE pt q ws 19 l++Zu++Xu R++ []):=Z5.ext (H:= []) (N:= []) (N':= []) (E:=hE pt q ws 19 l++Zu++Xu R) (GR (n:=n) hT) rfl rfl
  rw[gE] at s
  exact YY (F:=20) hT (My hl hR (H:=fun X Y=>hE pt q ws 19 X++Zu++Xu Y) fun X Y=>by rfl') [.con 695 .any (hE pt q ws 19 l++Zu++Xu R)] (fun loc=>Z5 G (n+9) (.Z8 (.ref 799)) [] (hE pt q ws 19 l++Zu++Xu R) .any (hE pt q ws 19 l++Zu++Xu R)/\Post loc .any (hE pt q ws 19 l++Zu++Xu R) .any ⟨loc,hE pt q ws 19 l++Zu++Xu R,[]⟩) (fun loc=>by rfl') fun loc=>⟨s,Z1 (by rfl')⟩
abbrev Lv (pt:Int) (q:BB) (ws:List Int) (l:List AV) (X:List AV):List AO:=hE pt q ws 19 l++RD pt q.bz q.zv++Xu X
abbrev sU (pt pt':Int) (q:BB) (ws:List Int) (l:List AV) (X:List AV) (s m:Int):List AO:=hE pt' q ws 29 l++RD pt q.bz q.zv++Xu X++ [Z9 s m,Z9 s m]
theorem vt {n:Nat}{k:Int}{ws:List Int}{pt s m:Int}{q:BB}{l:List AV}(hT:ZY G T0) (hl:Zm l) (hw:1<=ws.length/\ws.length<=3) (Qp:∀w∈ws,Qq w)
  (ha:Z5 G (n+10) (.Z8 (.ref 655)) [UE 8 9 10 11 12,.d (.int pt),.d (.int k)] (YH pt q q.zv (Z7 (ws.map Yg))) (.loc 13) (YH pt q q.zv (Z7 (ws.map Yg))++ [Z9 s m])) (hk:decide (0<k)=true) (hk2:(!decide (k=0))=true):
  Z5 G (n+11) (.Z8 (.ref 832)) [.loc 8,.loc 6,.d (.int k)] (Ym pt q ws++Nx (V7 l)) (.d .none) (Ym (min (max (s+m) q.bz) q.zv) q ws++Nx (V7 [.d (.tup [.int s,.int (s+m)])])):=by
 let R:=Z7 (ws.map Yg)
 have hR:Zm R:=YU _
 obtain ⟨k1,k2,_⟩:=UD (n:=n+1) (pt:=pt) (q:=q) hT hl hw Qp
 have k3:=(UD (n:=n) (pt:=pt) (q:=q) hT hl hw Qp).2.2
 have a:Z5 G (n+10) (.Z8 (.ref 655)) [UE 20 21 23 24 25,.d (.int pt),.d (.int k)] (Lv pt q ws l R) (.loc 28) (Lv pt q ws l R++ [Z9 s m]):=
  Z5.UU (L:=R) (H0:=fun X=>YH pt q q.zv X) (X_:=fun X=>YH pt q q.zv X++ [Z9 s m]) (Hb:=fun X=>Lv pt q ws l X) (VM:=fun X=>Lv pt q ws l X++ [Z9 s m]) ha (fun r=>YO _) [0,1,2,3,4,5,26,27,20,21,23,24,25] 28 (by rfl') (fun X=>by rfl') (fun X=>by rfl') (fun X=>by rfl')
 let H1:=sU pt (min (max (s+m) q.bz) q.zv) q ws l R s m
 have c:Z5 G (n+11) (.Z8 (.ref 832)) [.loc 8,.loc 6,.d (.int k)] (hE pt q ws 19 l) (.d .none) H1:=
  YY (F:=60) hT (My hl hR (H:=fun X Y=>sU pt (min (max (s+m) q.bz) q.zv) q ws X Y s m) fun X Y=>by rfl')
   [.con 713 (.loc 0) (hE pt q ws 19 l++ZP),.con 713 (.loc 26) (hE pt q ws 19 l++ZP++Xu R),.con 714 .any (hE pt q ws 19 l++Zu++Xu R),.t 715,.con 716 (.loc 28) (Lv pt q ws l R++ [Z9 s m]),.t 719,.t 702]
   (fun loc=>Z5 G (n+10) (.Z8 (.ref 1365)) [.loc 8] (hE pt q ws 19 l++ZP) (.loc 0) (hE pt q ws 19 l++ZP)/\
    Z5 G (n+10) (.Z8 (.ref 483)) [.loc 6,.d (.bool true)] (hE pt q ws 19 l++ZP) (.loc 26) (hE pt q ws 19 l++ZP++Xu R)/\
    Z5 G (n+10) (.Z8 (.ref 806)) [.loc 0] (hE pt q ws 19 l++Zu++Xu R) .any (hE pt q ws 19 l++Zu++Xu R)/\decide (0<k)=true/\
    Z5 G (n+10) (.Z8 (.ref 655)) [UE 20 21 23 24 25,.d (.int pt),.d (.int k)] (Lv pt q ws l R) (.loc 28) (Lv pt q ws l R++ [Z9 s m])/\(!decide (k=0))=true/\decide (0<k)=true/\Post loc (.d .none) H1 (.d .none) ⟨loc,H1,[]⟩)
   (fun loc=>by rfl') fun loc=>⟨k1,k2,k3,hk,a,hk2,hk,Z1 rfl⟩
 have b:=Z5.box (H:=Ym pt q ws++Nx (V7 l)) (i:=18) (j:=29) (x:="spans") (l:=l) (by rfl') c (o:=Z9 s m) (by rfl') (by rfl') (l':= [.d (.tup [.int s,.int (s+m)])]) (by rfl') (by decide)
 exact b.anew [0,1,2,3,4,5,6,7,8,9,10,11,12,13,14,15,16,17,18] (by rfl') (by rfl') (by rfl')
theorem vq {n:Nat}{k:Int}{ws:List Int}{pt s m:Int}{q:BB}{l:List AV}(hT:ZY G T0) (hl:Zm l) (hw:1<=ws.length/\ws.length<=3) (Qp:∀w∈ws,Qq w)
  (ha:Z5 G (n+10) (.Z8 (.ref 655)) [Wa 8 9 10 11 12,.d (.int pt),.d (.int k)] (YH pt q q.bz (Z7 (ws.map Yg))) (.loc 13) (YH pt q q.bz (Z7 (ws.map Yg))++ [Z9 s m])) (hk:decide (0<k)=false) (hk2:(!decide (k=0))=true):
  Z5 G (n+11) (.Z8 (.ref 832)) [.loc 8,.loc 6,.d (.int k)] (Ym pt q ws++Nx (V7 l)) (.d .none) (Ym (min (max s q.bz) q.zv) q ws++Nx (V7 [.d (.tup [.int s,.int (s+m)])])):=by
 let R:=Z7 (ws.map Yg)
 have hR:Zm R:=YU _
 obtain ⟨k1,k2,_⟩:=UD (n:=n+1) (pt:=pt) (q:=q) hT hl hw Qp
 have k3:=(UD (n:=n) (pt:=pt) (q:=q) hT hl hw Qp).2.2
 have a:Z5 G (n+10) (.Z8 (.ref 655)) [Wa 20 21 22 24 25,.d (.int pt),.d (.int k)] (Lv pt q ws l R) (.loc 28) (Lv pt q ws l R++ [Z9 s m]):=
  Z5.UU (L:=R) (H0:=fun X=>YH pt q q.bz X) (X_:=fun X=>YH pt q q.bz X++ [Z9 s m]) (Hb:=fun X=>Lv pt q ws l X) (VM:=fun X=>Lv pt q ws l X++ [Z9 s m]) ha (fun r=>YO _) [0,1,2,3,4,5,26,27,20,21,22,24,25] 28 (by rfl') (fun X=>by rfl') (fun X=>by rfl') (fun X=>by rfl')
 let H1:=sU pt (min (max s q.bz) q.zv) q ws l R s m
 have c:Z5 G (n+11) (.Z8 (.ref 832)) [.loc 8,.loc 6,.d (.int k)] (hE pt q ws 19 l) (.d .none) H1:=
  YY (F:=60) hT (My hl hR (H:=fun X Y=>sU pt (min (max s q.bz) q.zv) q ws X Y s m) fun X Y=>by rfl')
   [.con 713 (.loc 0) (hE pt q ws 19 l++ZP),.con 713 (.loc 26) (hE pt q ws 19 l++ZP++Xu R),.con 714 .any (hE pt q ws 19 l++Zu++Xu R),.f 715,.con 718 (.loc 28) (Lv pt q ws l R++ [Z9 s m]),.t 719,.f 702]
   (fun loc=>Z5 G (n+10) (.Z8 (.ref 1365)) [.loc 8] (hE pt q ws 19 l++ZP) (.loc 0) (hE pt q ws 19 l++ZP)/\
    Z5 G (n+10) (.Z8 (.ref 483)) [.loc 6,.d (.bool true)] (hE pt q ws 19 l++ZP) (.loc 26) (hE pt q ws 19 l++ZP++Xu R)/\
    Z5 G (n+10) (.Z8 (.ref 806)) [.loc 0] (hE pt q ws 19 l++Zu++Xu R) .any (hE pt q ws 19 l++Zu++Xu R)/\decide (0<k)=false/\
    Z5 G (n+10) (.Z8 (.ref 655)) [Wa 20 21 22 24 25,.d (.int pt),.d (.int k)] (Lv pt q ws l R) (.loc 28) (Lv pt q ws l R++ [Z9 s m])/\(!decide (k=0))=true/\decide (0<k)=false/\Post loc (.d .none) H1 (.d .none) ⟨loc,H1,[]⟩)
   (fun loc=>by rfl') fun loc=>⟨k1,k2,k3,hk,a,hk2,hk,Z1 rfl⟩
 have b:=Z5.box (H:=Ym pt q ws++Nx (V7 l)) (i:=18) (j:=29) (x:="spans") (l:=l) (by rfl') c (o:=Z9 s m) (by rfl') (by rfl') (l':= [.d (.tup [.int s,.int (s+m)])]) (by rfl') (by decide)
 exact b.anew [0,1,2,3,4,5,6,7,8,9,10,11,12,13,14,15,16,17,18] (by rfl') (by rfl') (by rfl')
abbrev Vj (pt:Int) (q:BB) (ws:List Int) (l:List AV):List AO:=Ym pt q ws++Nx (V7 l)
abbrev XS:List AO:= [WU,WU,WU,WU,.cell (some (.loc 25)),.cell (some (.loc 0))]
abbrev GQ (pt bz zv:Int):List AO:= [.cell (some .any),.cell (some (.d (.int pt))),.cell (some (.d (.int bz))),.cell (some (.d (.int zv))),.cell (some (.loc 25)),.cell (some (.loc 0))]
abbrev WE (X:List AV):List AO:= [Ay 26,.list X]
abbrev Mx (pt:Int) (q:BB) (ws:List Int) (l:List AV) (X:List AV):List AO:=Vj pt q ws l++GQ pt q.bz q.zv++WE X
theorem Qo {n:Nat}{ws:List Int}{pt:Int}{q:BB}{l:List AV}(hT:ZY G T0) (hl:Zm l) (hw:1<=ws.length/\ws.length<=3) (Qp:∀w∈ws,Qq w):
  Z5 G (n+9) (.Z8 (.ref 1365)) [.loc 8] (Vj pt q ws l++ZP) (.loc 0) (Vj pt q ws l++ZP)/\
  Z5 G (n+9) (.Z8 (.ref 483)) [.loc 6,.d (.bool true)] (Vj pt q ws l++ZP) (.loc 25) (Vj pt q ws l++ZP++WE (Z7 (ws.map Yg)))/\
  Z5 G (n+10) (.Z8 (.ref 806)) [.loc 0] (Vj pt q ws l++XS++WE (Z7 (ws.map Yg))) .any (Vj pt q ws l++XS++WE (Z7 (ws.map Yg))):=by
 let R:=Z7 (ws.map Yg)
 have hR:Zm R:=YU _
 refine⟨?_,?_,?_⟩
 ·exact YY (F:=20) hT (J8 hl (H:=fun X=>Vj pt q ws X++ZP) fun X=>by rfl') [] (fun loc=>Post loc (.loc 0) (Vj pt q ws l++ZP) (.loc 0) ⟨loc,Vj pt q ws l++ZP,[]⟩) (fun loc=>by rfl') fun loc=>Z1 (by rfl')
 ·have c:=Mz (n:=n) hT hw Qp
  exact Z5.UU (L:=R) (H0:=fun X=> [.Z_ ws]) (X_:=fun X=> [.Z_ ws,Ay 2,.list X]) (Hb:=fun X=>Vj pt q ws l++ZP) (VM:=fun X=>Vj pt q ws l++ZP++WE X) c (fun r=>YO _) [6] 25 (by rfl') (fun X=>by rfl') (fun X=>by rfl') (fun X=>by rfl')
 ·have s:Z5 G (n+9) (.Z8 (.ref 799)) [] (Vj pt q ws l++XS++WE R) .any (Vj pt q ws l++XS++WE R++ []):=Z5.ext (H:= []) (N:= []) (N':= []) (E:=Vj pt q ws l++XS++WE R) (GR (n:=n) hT) rfl rfl
  rw[gE] at s
  exact YY (F:=20) hT (My hl hR (H:=fun X Y=>Vj pt q ws X++XS++WE Y) fun X Y=>by rfl') [.con 695 .any (Vj pt q ws l++XS++WE R)] (fun loc=>Z5 G (n+9) (.Z8 (.ref 799)) [] (Vj pt q ws l++XS++WE R) .any (Vj pt q ws l++XS++WE R)/\Post loc .any (Vj pt q ws l++XS++WE R) .any ⟨loc,Vj pt q ws l++XS++WE R,[]⟩) (fun loc=>by rfl') fun loc=>⟨s,Z1 (by rfl')⟩
theorem vp {n:Nat}{ws:List Int}{pt:Int}{q:BB}{l:List AV}(hT:ZY G T0) (hl:Zm l) (hw:1<=ws.length/\ws.length<=3) (Qp:∀w∈ws,Qq w)
  (ha:Z5 G (n+10) (.Z8 (.ref 655)) [Wa 8 9 10 11 12,.d (.int pt),.d (.int 0)] (YH pt q q.bz (Z7 (ws.map Yg))) (.d .none) (YH pt q q.bz (Z7 (ws.map Yg)))):
  Z5 G (n+11) (.Z8 (.ref 832)) [.loc 8,.loc 6,.d (.int 0)] (Ym pt q ws++Nx (V7 l)) (.d .none) (Ym pt q ws++Nx (V7 l)):=by
 let R:=Z7 (ws.map Yg)
 have hR:Zm R:=YU _
 obtain ⟨k1,k2,_⟩:=Qo (n:=n+1) (pt:=pt) (q:=q) hT hl hw Qp
 have k3:=(Qo (n:=n) (pt:=pt) (q:=q) hT hl hw Qp).2.2
 have a:Z5 G (n+10) (.Z8 (.ref 655)) [Wa 19 20 21 23 24,.d (.int pt),.d (.int 0)] (Mx pt q ws l R) (.d .none) (Mx pt q ws l R):=
  Z5.UU (L:=R) (H0:=fun X=>YH pt q q.bz X) (X_:=fun X=>YH pt q q.bz X) (Hb:=fun X=>Mx pt q ws l X) (VM:=fun X=>Mx pt q ws l X) ha (fun r=>YO _) [0,1,2,3,4,5,25,26,19,20,21,23,24] 27 (by rfl') (fun X=>by rfl') (fun X=>by rfl') (fun X=>by rfl')
 exact YY (F:=60) hT (J8 hl (H:=fun X=>Vj pt q ws X) fun X=>by rfl')
   [.con 713 (.loc 0) (Vj pt q ws l++ZP),.con 713 (.loc 25) (Vj pt q ws l++ZP++WE R),.con 714 .any (Vj pt q ws l++XS++WE R),.con 718 (.d .none) (Mx pt q ws l R)]
   (fun loc=>Z5 G (n+10) (.Z8 (.ref 1365)) [.loc 8] (Vj pt q ws l++ZP) (.loc 0) (Vj pt q ws l++ZP)/\
    Z5 G (n+10) (.Z8 (.ref 483)) [.loc 6,.d (.bool true)] (Vj pt q ws l++ZP) (.loc 25) (Vj pt q ws l++ZP++WE R)/\
    Z5 G (n+10) (.Z8 (.ref 806)) [.loc 0] (Vj pt q ws l++XS++WE R) .any (Vj pt q ws l++XS++WE R)/\
    Z5 G (n+10) (.Z8 (.ref 655)) [Wa 19 20 21 23 24,.d (.int pt),.d (.int 0)] (Mx pt q ws l R) (.d .none) (Mx pt q ws l R)/\Post loc (.d .none) (Vj pt q ws l) (.d .none) ⟨loc,Vj pt q ws l++(GQ pt q.bz q.zv++WE R),[]⟩)
   (fun loc=>by rfl') fun loc=>⟨k1,k2,k3,a,XG rfl⟩
abbrev ZJ (k:Nat):List Int:=eH k 0
abbrev pX (bz zv tk:Int):AO:=Ej 14 19 21 1 bz zv tk
abbrev TY (us:List Int) (zv tk gs ge:Int) (cs:List Int) (j:Nat) (md:List AO):List AO:= [.Z_ us,AK 2 3,.dict [(1,.loc 12)],.Z_ [1],AL 1 5 6 j 7 8 9 10,.dict [],.Z_ [],.dict [],.dict [],.inst 1340 [("sort",.d (.str "")),("many",.d (.int 0))],.Z_ [],.gone,pX 1 zv tk,.Z_ [],Ek 18 8 gs ge,.Z_ [],.Z_ [0],.Z_ (ZJ 8),.Z_ cs,.inst 1052 [("rows",.loc 20)],.dict [],.Z_ []]++md++ [.inst 1571 [("spans",.loc (j+1))],.Z_ []]
abbrev UC (us:List Int) (zv tk gs ge:Int) (cs:List Int):List AO:= [.Z_ us,Ej 2 4 6 1 1 zv tk,Ek 3 8 gs ge,.Z_ cs,.inst 1052 [("rows",.loc 5)],.dict [],.Z_ [],AL 8 11 12 17 13 14 15 16,AK 9 10,.dict [(1,.loc 1)],.Z_ [1],.dict [],.Z_ [],.dict [],.dict [],.inst 1340 [("sort",.d (.str "")),("many",.d (.int 0))],.Z_ [],.mb 1571 "spans" []]
theorem vo {n:Nat}(hT:ZY G T0):Z5 G (n+12) (.Z8 (.ref 1603)) [.loc 0] [.Z_ []] (.loc 7) (UC [] 1 1 0 8 (ZJ 8)):=by
 have z:Z5 G (n+12) (.Z8 (.ref 1603)) [.loc 0] [.Z_ []] (.loc 4) (TY [] 1 1 0 8 (ZJ 8) 22 []):=VG (F:=120) hT (by rfl') fun loc=>by rfl'
 exact(z.UI (i:=22) (j:=23) (C:=1571) (x:="spans") (l':= []) (o:= .Z_ []) (by rfl') (by rfl') (by rfl') (by decide)).anew [0,12,14,18,19,20,21,4,1,2,3,5,6,7,8,9,10,22] (by rfl') (by rfl') (by rfl')
theorem vn {n:Nat}{u0:Int}(hT:ZY G T0):Z5 G (n+12) (.Z8 (.ref 1603)) [.loc 0] [.Z_ [u0]] (.loc 7) (UC [u0] 2 2 1 8 ([u0]++ZJ 7)):=by
 have z:Z5 G (n+12) (.Z8 (.ref 1603)) [.loc 0] [.Z_ [u0]] (.loc 4) (TY [u0] 2 2 1 8 ([u0]++ZJ 7) 29 [.Z_ [],.gone,.Z_ [],.Z_ [],.gone,.Z_ [],.gone]):=VG (F:=120) hT (by rfl') fun loc=>by rfl'
 exact(z.UI (i:=29) (j:=30) (C:=1571) (x:="spans") (l':= []) (o:= .Z_ []) (by rfl') (by rfl') (by rfl') (by decide)).anew [0,12,14,18,19,20,21,4,1,2,3,5,6,7,8,9,10,29] (by rfl') (by rfl') (by rfl')
theorem vm {n:Nat}{u0 u1:Int}(hT:ZY G T0):Z5 G (n+12) (.Z8 (.ref 1603)) [.loc 0] [.Z_ [u0,u1]] (.loc 7) (UC [u0,u1] 3 2 2 8 ([u0,u1]++ZJ 6)):=by
 have z:Z5 G (n+12) (.Z8 (.ref 1603)) [.loc 0] [.Z_ [u0,u1]] (.loc 4) (TY [u0,u1] 3 2 2 8 ([u0,u1]++ZJ 6) 29 [.Z_ [],.gone,.Z_ [],.Z_ [],.gone,.Z_ [],.gone]):=VG (F:=120) hT (by rfl') fun loc=>by rfl'
 exact(z.UI (i:=29) (j:=30) (C:=1571) (x:="spans") (l':= []) (o:= .Z_ []) (by rfl') (by rfl') (by rfl') (by decide)).anew [0,12,14,18,19,20,21,4,1,2,3,5,6,7,8,9,10,29] (by rfl') (by rfl') (by rfl')
theorem vj {n:Nat}{u0 u1 u2:Int}(hT:ZY G T0):Z5 G (n+12) (.Z8 (.ref 1603)) [.loc 0] [.Z_ [u0,u1,u2]] (.loc 7) (UC [u0,u1,u2] 4 2 3 8 ([u0,u1,u2]++ZJ 5)):=by
 have z:Z5 G (n+12) (.Z8 (.ref 1603)) [.loc 0] [.Z_ [u0,u1,u2]] (.loc 4) (TY [u0,u1,u2] 4 2 3 8 ([u0,u1,u2]++ZJ 5) 29 [.Z_ [],.gone,.Z_ [],.Z_ [],.gone,.Z_ [],.gone]):=VG (F:=120) hT (by rfl') fun loc=>by rfl'
 exact(z.UI (i:=29) (j:=30) (C:=1571) (x:="spans") (l':= []) (o:= .Z_ []) (by rfl') (by rfl') (by rfl') (by decide)).anew [0,12,14,18,19,20,21,4,1,2,3,5,6,7,8,9,10,29] (by rfl') (by rfl') (by rfl')
theorem vh {n:Nat}{u0 u1 u2 u3:Int}(hT:ZY G T0):Z5 G (n+12) (.Z8 (.ref 1603)) [.loc 0] [.Z_ [u0,u1,u2,u3]] (.loc 7) (UC [u0,u1,u2,u3] 5 2 4 8 ([u0,u1,u2,u3]++ZJ 4)):=by
 have z:Z5 G (n+12) (.Z8 (.ref 1603)) [.loc 0] [.Z_ [u0,u1,u2,u3]] (.loc 4) (TY [u0,u1,u2,u3] 5 2 4 8 ([u0,u1,u2,u3]++ZJ 4) 29 [.Z_ [],.gone,.Z_ [],.Z_ [],.gone,.Z_ [],.gone]):=VG (F:=120) hT (by rfl') fun loc=>by rfl'
 exact(z.UI (i:=29) (j:=30) (C:=1571) (x:="spans") (l':= []) (o:= .Z_ []) (by rfl') (by rfl') (by rfl') (by decide)).anew [0,12,14,18,19,20,21,4,1,2,3,5,6,7,8,9,10,29] (by rfl') (by rfl') (by rfl')
theorem vg {n:Nat}{u0 u1 u2 u3 u4:Int}(hT:ZY G T0):Z5 G (n+12) (.Z8 (.ref 1603)) [.loc 0] [.Z_ [u0,u1,u2,u3,u4]] (.loc 7) (UC [u0,u1,u2,u3,u4] 6 2 5 8 ([u0,u1,u2,u3,u4]++ZJ 3)):=by
 have z:Z5 G (n+12) (.Z8 (.ref 1603)) [.loc 0] [.Z_ [u0,u1,u2,u3,u4]] (.loc 4) (TY [u0,u1,u2,u3,u4] 6 2 5 8 ([u0,u1,u2,u3,u4]++ZJ 3) 29 [.Z_ [],.gone,.Z_ [],.Z_ [],.gone,.Z_ [],.gone]):=VG (F:=120) hT (by rfl') fun loc=>by rfl'
 exact(z.UI (i:=29) (j:=30) (C:=1571) (x:="spans") (l':= []) (o:= .Z_ []) (by rfl') (by rfl') (by rfl') (by decide)).anew [0,12,14,18,19,20,21,4,1,2,3,5,6,7,8,9,10,29] (by rfl') (by rfl') (by rfl')
theorem vf {n:Nat}{u0 u1 u2 u3 u4 u5:Int}(hT:ZY G T0):Z5 G (n+12) (.Z8 (.ref 1603)) [.loc 0] [.Z_ [u0,u1,u2,u3,u4,u5]] (.loc 7) (UC [u0,u1,u2,u3,u4,u5] 7 2 6 8 ([u0,u1,u2,u3,u4,u5]++ZJ 2)):=by
 have z:Z5 G (n+12) (.Z8 (.ref 1603)) [.loc 0] [.Z_ [u0,u1,u2,u3,u4,u5]] (.loc 4) (TY [u0,u1,u2,u3,u4,u5] 7 2 6 8 ([u0,u1,u2,u3,u4,u5]++ZJ 2) 29 [.Z_ [],.gone,.Z_ [],.Z_ [],.gone,.Z_ [],.gone]):=VG (F:=120) hT (by rfl') fun loc=>by rfl'
 exact(z.UI (i:=29) (j:=30) (C:=1571) (x:="spans") (l':= []) (o:= .Z_ []) (by rfl') (by rfl') (by rfl') (by decide)).anew [0,12,14,18,19,20,21,4,1,2,3,5,6,7,8,9,10,29] (by rfl') (by rfl') (by rfl')
theorem ve {n:Nat}{u0 u1 u2 u3 u4 u5 u6:Int}(hT:ZY G T0):Z5 G (n+12) (.Z8 (.ref 1603)) [.loc 0] [.Z_ [u0,u1,u2,u3,u4,u5,u6]] (.loc 7) (UC [u0,u1,u2,u3,u4,u5,u6] 8 2 7 8 ([u0,u1,u2,u3,u4,u5,u6]++ZJ 1)):=by
 have z:Z5 G (n+12) (.Z8 (.ref 1603)) [.loc 0] [.Z_ [u0,u1,u2,u3,u4,u5,u6]] (.loc 4) (TY [u0,u1,u2,u3,u4,u5,u6] 8 2 7 8 ([u0,u1,u2,u3,u4,u5,u6]++ZJ 1) 29 [.Z_ [],.gone,.Z_ [],.Z_ [],.gone,.Z_ [],.gone]):=VG (F:=120) hT (by rfl') fun loc=>by rfl'
 exact(z.UI (i:=29) (j:=30) (C:=1571) (x:="spans") (l':= []) (o:= .Z_ []) (by rfl') (by rfl') (by rfl') (by decide)).anew [0,12,14,18,19,20,21,4,1,2,3,5,6,7,8,9,10,29] (by rfl') (by rfl') (by rfl')
theorem vd {n:Nat}{u0 u1 u2 u3 u4 u5 u6 u7:Int}(hT:ZY G T0):Z5 G (n+12) (.Z8 (.ref 1603)) [.loc 0] [.Z_ [u0,u1,u2,u3,u4,u5,u6,u7]] (.loc 7) (UC [u0,u1,u2,u3,u4,u5,u6,u7] 9 2 8 8 ([u0,u1,u2,u3,u4,u5,u6,u7]++ZJ 0)):=by
 have z:Z5 G (n+12) (.Z8 (.ref 1603)) [.loc 0] [.Z_ [u0,u1,u2,u3,u4,u5,u6,u7]] (.loc 4) (TY [u0,u1,u2,u3,u4,u5,u6,u7] 9 2 8 8 ([u0,u1,u2,u3,u4,u5,u6,u7]++ZJ 0) 29 [.Z_ [],.gone,.Z_ [],.Z_ [],.gone,.Z_ [],.gone]):=VG (F:=120) hT (by rfl') fun loc=>by rfl'
 exact(z.UI (i:=29) (j:=30) (C:=1571) (x:="spans") (l':= []) (o:= .Z_ []) (by rfl') (by rfl') (by rfl') (by decide)).anew [0,12,14,18,19,20,21,4,1,2,3,5,6,7,8,9,10,29] (by rfl') (by rfl') (by rfl')
theorem vc {n:Nat}{u0 u1 u2 u3 u4 u5 u6 u7 u8:Int}(hT:ZY G T0):Z5 G (n+12) (.Z8 (.ref 1603)) [.loc 0] [.Z_ [u0,u1,u2,u3,u4,u5,u6,u7,u8]] (.loc 7) (UC [u0,u1,u2,u3,u4,u5,u6,u7,u8] 10 2 9 17 ([u0,u1,u2,u3,u4,u5,u6,u7,u8]++ZJ 8)):=by
 have z:Z5 G (n+12) (.Z8 (.ref 1603)) [.loc 0] [.Z_ [u0,u1,u2,u3,u4,u5,u6,u7,u8]] (.loc 4) (TY [u0,u1,u2,u3,u4,u5,u6,u7,u8] 10 2 9 17 ([u0,u1,u2,u3,u4,u5,u6,u7,u8]++ZJ 8) 31 [.Z_ [],.gone,.Z_ [0],.Z_ (ZJ 9),.Z_ [],.Z_ [],.gone,.Z_ [],.gone]):=VG (F:=120) hT (by rfl') fun loc=>by rfl'
 exact(z.UI (i:=31) (j:=32) (C:=1571) (x:="spans") (l':= []) (o:= .Z_ []) (by rfl') (by rfl') (by rfl') (by decide)).anew [0,12,14,18,19,20,21,4,1,2,3,5,6,7,8,9,10,31] (by rfl') (by rfl') (by rfl')
theorem Ax {n:Nat}{u0 u1 u2 u3 u4 u5 u6 u7 u8 u9:Int}(hT:ZY G T0):Z5 G (n+12) (.Z8 (.ref 1603)) [.loc 0] [.Z_ [u0,u1,u2,u3,u4,u5,u6,u7,u8,u9]] (.loc 7) (UC [u0,u1,u2,u3,u4,u5,u6,u7,u8,u9] 11 2 10 18 ([u0,u1,u2,u3,u4,u5,u6,u7,u8,u9]++ZJ 8)):=by
 have z:Z5 G (n+12) (.Z8 (.ref 1603)) [.loc 0] [.Z_ [u0,u1,u2,u3,u4,u5,u6,u7,u8,u9]] (.loc 4) (TY [u0,u1,u2,u3,u4,u5,u6,u7,u8,u9] 11 2 10 18 ([u0,u1,u2,u3,u4,u5,u6,u7,u8,u9]++ZJ 8) 31 [.Z_ [],.gone,.Z_ [0],.Z_ (ZJ 10),.Z_ [],.Z_ [],.gone,.Z_ [],.gone]):=VG (F:=120) hT (by rfl') fun loc=>by rfl'
 exact(z.UI (i:=31) (j:=32) (C:=1571) (x:="spans") (l':= []) (o:= .Z_ []) (by rfl') (by rfl') (by rfl') (by decide)).anew [0,12,14,18,19,20,21,4,1,2,3,5,6,7,8,9,10,31] (by rfl') (by rfl') (by rfl')
theorem Aw {n:Nat}{u0 u1 u2 u3 u4 u5 u6 u7 u8 u9 O5:Int}(hT:ZY G T0):Z5 G (n+12) (.Z8 (.ref 1603)) [.loc 0] [.Z_ [u0,u1,u2,u3,u4,u5,u6,u7,u8,u9,O5]] (.loc 7) (UC [u0,u1,u2,u3,u4,u5,u6,u7,u8,u9,O5] 12 2 11 19 ([u0,u1,u2,u3,u4,u5,u6,u7,u8,u9,O5]++ZJ 8)):=by
 have z:Z5 G (n+12) (.Z8 (.ref 1603)) [.loc 0] [.Z_ [u0,u1,u2,u3,u4,u5,u6,u7,u8,u9,O5]] (.loc 4) (TY [u0,u1,u2,u3,u4,u5,u6,u7,u8,u9,O5] 12 2 11 19 ([u0,u1,u2,u3,u4,u5,u6,u7,u8,u9,O5]++ZJ 8) 31 [.Z_ [],.gone,.Z_ [0],.Z_ (ZJ 11),.Z_ [],.Z_ [],.gone,.Z_ [],.gone]):=VG (F:=120) hT (by rfl') fun loc=>by rfl'
 exact(z.UI (i:=31) (j:=32) (C:=1571) (x:="spans") (l':= []) (o:= .Z_ []) (by rfl') (by rfl') (by rfl') (by decide)).anew [0,12,14,18,19,20,21,4,1,2,3,5,6,7,8,9,10,31] (by rfl') (by rfl') (by rfl')
theorem Av {n:Nat}{u0 u1 u2 u3 u4 u5 u6 u7 u8 u9 O5 D3:Int}(hT:ZY G T0):Z5 G (n+12) (.Z8 (.ref 1603)) [.loc 0] [.Z_ [u0,u1,u2,u3,u4,u5,u6,u7,u8,u9,O5,D3]] (.loc 7) (UC [u0,u1,u2,u3,u4,u5,u6,u7,u8,u9,O5,D3] 13 2 12 20 ([u0,u1,u2,u3,u4,u5,u6,u7,u8,u9,O5,D3]++ZJ 8)):=by
 have z:Z5 G (n+12) (.Z8 (.ref 1603)) [.loc 0] [.Z_ [u0,u1,u2,u3,u4,u5,u6,u7,u8,u9,O5,D3]] (.loc 4) (TY [u0,u1,u2,u3,u4,u5,u6,u7,u8,u9,O5,D3] 13 2 12 20 ([u0,u1,u2,u3,u4,u5,u6,u7,u8,u9,O5,D3]++ZJ 8) 31 [.Z_ [],.gone,.Z_ [0],.Z_ (ZJ 12),.Z_ [],.Z_ [],.gone,.Z_ [],.gone]):=VG (F:=120) hT (by rfl') fun loc=>by rfl'
 exact(z.UI (i:=31) (j:=32) (C:=1571) (x:="spans") (l':= []) (o:= .Z_ []) (by rfl') (by rfl') (by rfl') (by decide)).anew [0,12,14,18,19,20,21,4,1,2,3,5,6,7,8,9,10,31] (by rfl') (by rfl') (by rfl')
theorem Y4 {us t:List Int}(h:us.length<=12) (ht:t.length<=20):Holds us 1 (us.length+1) us.length (us++t):=⟨by omega,by omega,rfl,⟨t,rfl⟩,by rw[gA];omega⟩
theorem pW {n:Nat}{us:List Int}(hT:ZY G T0) (h:us.length<=12):∃tk ge cs,(Holds us 1 (us.length+1) us.length cs/\ge=cs.length)/\Z5 G (n+12) (.Z8 (.ref 1603)) [.loc 0] [.Z_ us] (.loc 7) (UC us (us.length+1) tk us.length ge cs):=by
 match us,h with
 | [],h=>exact⟨1,8,[]++ZJ 8,⟨Y4 h (by decide),by simp;try omega⟩,vo hT⟩
 | [u0],h=>exact⟨2,8,[u0]++ZJ 7,⟨Y4 h (by decide),by simp;try omega⟩,vn hT⟩
 | [u0,u1],h=>exact⟨2,8,[u0,u1]++ZJ 6,⟨Y4 h (by decide),by simp;try omega⟩,vm hT⟩
 | [u0,u1,u2],h=>exact⟨2,8,[u0,u1,u2]++ZJ 5,⟨Y4 h (by decide),by simp;try omega⟩,vj hT⟩
 | [u0,u1,u2,u3],h=>exact⟨2,8,[u0,u1,u2,u3]++ZJ 4,⟨Y4 h (by decide),by simp;try omega⟩,vh hT⟩
 | [u0,u1,u2,u3,u4],h=>exact⟨2,8,[u0,u1,u2,u3,u4]++ZJ 3,⟨Y4 h (by decide),by simp;try omega⟩,vg hT⟩
 | [u0,u1,u2,u3,u4,u5],h=>exact⟨2,8,[u0,u1,u2,u3,u4,u5]++ZJ 2,⟨Y4 h (by decide),by simp;try omega⟩,vf hT⟩
 | [u0,u1,u2,u3,u4,u5,u6],h=>exact⟨2,8,[u0,u1,u2,u3,u4,u5,u6]++ZJ 1,⟨Y4 h (by decide),by simp;try omega⟩,ve hT⟩
 | [u0,u1,u2,u3,u4,u5,u6,u7],h=>exact⟨2,8,[u0,u1,u2,u3,u4,u5,u6,u7]++ZJ 0,⟨Y4 h (by decide),by simp;try omega⟩,vd hT⟩
 | [u0,u1,u2,u3,u4,u5,u6,u7,u8],h=>exact⟨2,17,[u0,u1,u2,u3,u4,u5,u6,u7,u8]++ZJ 8,⟨Y4 h (by decide),by simp;try omega⟩,vc hT⟩
 | [u0,u1,u2,u3,u4,u5,u6,u7,u8,u9],h=>exact⟨2,18,[u0,u1,u2,u3,u4,u5,u6,u7,u8,u9]++ZJ 8,⟨Y4 h (by decide),by simp;try omega⟩,Ax hT⟩
 | [u0,u1,u2,u3,u4,u5,u6,u7,u8,u9,O5],h=>exact⟨2,19,[u0,u1,u2,u3,u4,u5,u6,u7,u8,u9,O5]++ZJ 8,⟨Y4 h (by decide),by simp;try omega⟩,Aw hT⟩
 | [u0,u1,u2,u3,u4,u5,u6,u7,u8,u9,O5,D3],h=>exact⟨2,20,[u0,u1,u2,u3,u4,u5,u6,u7,u8,u9,O5,D3]++ZJ 8,⟨Y4 h (by decide),by simp;try omega⟩,Av hT⟩
 |u0::u1::u2::u3::u4::u5::u6::u7::u8::u9::O5::D3::iG::r,h=>exact absurd h (by simp only[fR];omega)
theorem TX {P:Int->Bool}:∀{k:Nat}{a s:Int},Zf P a k=some s->a<=s/\s<a+k
 |0,a,s,h=>by cases h
 |k+1,a,s,h=>by
  unfold Zf at h
  cases e:P a with
  |true=>rw[e] at h;cases h;omega
  |false=>rw[e] at h;exact yI (TX h)
theorem TV {P:Int->Bool}:∀{k:Nat}{a s:Int},Zi P a k=some s->s<=a/\a - k<s
 |0,a,s,h=>by cases h
 |k+1,a,s,h=>by
  unfold Zi at h
  cases e:P a with
  |true=>rw[e] at h;cases h;omega
  |false=>rw[e] at h;exact yJ (TV h)
def RA (f:Int->Int) (zv:Int) (ws:List Int) (p:Int):Option Int:=Zf (fun s=>Zo f s ws) p (zv - ws.length+1 - p).toNat
def Rz (f:Int->Int) (bz:Int) (ws:List Int) (p:Int):Option Int:=Zi (fun s=>Zo f s ws) (p - ws.length) (p - ws.length - (bz - 1)).toNat
def VF (f:Int->Int) (zv:Int) (rs:List (Option Int)) (p:Int):Option Int:=Zf (fun s=>ZG f zv rs s) p (zv+1 - p).toNat
def VE (f:Int->Int) (bz:Int) (rs:List (Option Int)) (p:Int):Option Int:=Zi (fun s=>ZG f p rs s) p (p - (bz - 1)).toNat
theorem UZ {f:Int->Int}{lim:Int}:∀{rs:List (Option Int)}{p:Int},1<=rs.length->ZG f lim rs p=true->p+rs.length<=lim
 | [],p,h,_=>by cases h
 |r::l,p,_,h=>by
  unfold ZG at h
  cases e:Yj f lim r p with
  |false=>rw[e] at h;cases h
  |true=>
   rw[e] at h
   have hp:p<lim:=by
    unfold Yj at e
    cases q:decide (p<lim) with
    |true=>exact of_decide_eq_true q
    |false=>rw[q] at e;cases e
   cases l with
   |nil=>simp only[fR,List.length_nil];omega
   |cons r' l'=>
    have:=UZ (rs:=r'::l') (p:=p+1) (by simp) h
    simp only[fR] at this ⊢
    push_cast at this ⊢
    omega
theorem Ry {P:Int->Bool}:∀{k:Nat}{a s:Int},Zf P a k=some s->P s=true
 |0,a,s,h=>by cases h
 |k+1,a,s,h=>by
  unfold Zf at h
  cases e:P a with
  |true=>rw[e] at h;cases h;exact e
  |false=>rw[e] at h;exact Ry h
theorem UY {pt:Int}{q:BB}{ws:List Int}{bd:Int}:Y9 10 (hcl pt q ws bd)=true:=by rfl'
theorem u_ {n:Nat}{us ws:List Int}{pt:Int}{q:BB}{k:Nat}(hT:ZY G T0) (hh:Holds us q.bz q.zv q.gs q.cs) (hu:∀u∈us,isLt u) (hw:∀w∈ws,isLt w) (hl:ws.length<=100) (hz:q.zv<=1000) (hp:W7 pt) (hz0:0<=q.zv) (hk:1<=k/\k<=3):
  Z5 G (n+8) (.Z8 (.ref 655)) [Pp 7 9 8,.d (.int pt),.d (.int k)] (hcl pt q ws q.zv) (Xv 10 (ZZ (RA (ZV us q.bz q.zv) q.zv ws) (fun s=>s+ws.length) k pt none)) (hcl pt q ws q.zv++YE ws.length (ZZ (RA (ZV us q.bz q.zv) q.zv ws) (fun s=>s+ws.length) k pt none)):=by
 have hc:∀p,W7 p->Z5 G (n+7) (Pp 7 9 8) [.d (.int p)] (hcl pt q ws q.zv) (Xv 10 (RA (ZV us q.bz q.zv) q.zv ws p)) (hcl pt q ws q.zv++YE ws.length (RA (ZV us q.bz q.zv) q.zv ws p)):=fun p hp=>
  AJ hT hh hu hw hl hp (by omega) (by unfold RA;rw[Int.min_self])
 have hn:∀p s,W7 p->RA (ZV us q.bz q.zv) q.zv ws p=some s->W7 (s+ws.length):=fun p s hp e=>by
  have:=TX e
  exact⟨by have:=hp.1;omega,by have:=hp.1;have:=hp.2;omega⟩
 match k,hk with
 |1,_=>exact Hi hT UY (by rfl') hp hn hc
 |2,_=>exact Hf hT UY (by rfl') hp hn hc
 |3,_=>exact G_ hT UY (by rfl') hp hn hc
 |0,h=>exact absurd h.1 (by decide)
 |k+4,h=>exact absurd h.2 (by omega)
theorem Cu {n:Nat}{us ws:List Int}{pt:Int}{q:BB}{k:Nat}(hT:ZY G T0) (hh:Holds us q.bz q.zv q.gs q.cs) (hu:∀u∈us,isLt u) (hw:∀w∈ws,isLt w) (hl:ws.length<=100) (hz:q.bz<=1000) (hp:W7 pt) (hk:k<=3):
  Z5 G (n+8) (.Z8 (.ref 655)) [S8 7 9 8,.d (.int pt),.d (.int (-k))] (hcl pt q ws q.bz) (Xv 10 (ZZ (Rz (ZV us q.bz q.zv) q.bz ws) (fun s=>s) k pt none)) (hcl pt q ws q.bz++YE ws.length (ZZ (Rz (ZV us q.bz q.zv) q.bz ws) (fun s=>s) k pt none)):=by
 have hb:=hh.b
 have hc:∀p,W7 p->Z5 G (n+7) (S8 7 9 8) [.d (.int p)] (hcl pt q ws q.bz) (Xv 10 (Rz (ZV us q.bz q.zv) q.bz ws p)) (hcl pt q ws q.bz++YE ws.length (Rz (ZV us q.bz q.zv) q.bz ws p)):=fun p hp=>
  AI hT hh hu hw hl hp (by omega) (by unfold Rz;rw[Int.max_self])
 have hn:∀p s,W7 p->Rz (ZV us q.bz q.zv) q.bz ws p=some s->W7 s:=fun p s hp e=>by
  have:=TV e
  exact⟨by omega,by have:=hp.2;omega⟩
 match k,hk with
 |0,_=>exact G9 hT UY (by rfl') hp hn hc
 |1,_=>exact G8 hT UY (by rfl') hp hn hc
 |2,_=>exact G7 hT UY (by rfl') hp hn hc
 |3,_=>exact G6 hT UY (by rfl') hp hn hc
 |k+4,h=>exact absurd h (by omega)
theorem Wl {pt:Int}{q:BB}{bd:Int}{rs:List (Option Int)}:Y9 13 (YH pt q bd (Z7 rs))=true:=T_ (YU rs) (H:=fun X=>YH pt q bd X) fun X=>by rfl'
theorem Au {n:Nat}{us:List Int}{rs:List (Option Int)}{pt:Int}{q:BB}{k:Nat}(hT:ZY G T0) (hh:Holds us q.bz q.zv q.gs q.cs) (hu:∀u∈us,isLt u) (hrs:1<=rs.length/\rs.length<=3) (hz:q.zv<=1000) (hp:W7 pt) (hz0:0<=q.zv) (hk:1<=k/\k<=3):
  Z5 G (n+9) (.Z8 (.ref 655)) [UE 8 9 10 11 12,.d (.int pt),.d (.int k)] (YH pt q q.zv (Z7 rs)) (Xv 13 (ZZ (VF (ZV us q.bz q.zv) q.zv rs) (fun s=>s+rs.length) k pt none)) (YH pt q q.zv (Z7 rs)++YE rs.length (ZZ (VF (ZV us q.bz q.zv) q.zv rs) (fun s=>s+rs.length) k pt none)):=by
 have hc:∀p,W7 p->Z5 G (n+8) (UE 8 9 10 11 12) [.d (.int p)] (YH pt q q.zv (Z7 rs)) (Xv 13 (VF (ZV us q.bz q.zv) q.zv rs p)) (YH pt q q.zv (Z7 rs)++YE rs.length (VF (ZV us q.bz q.zv) q.zv rs p)):=fun p hp=>
  D5 hT hh hu hrs hp (by omega) (by unfold VF;rw[Int.min_self])
 have hn:∀p s,W7 p->VF (ZV us q.bz q.zv) q.zv rs p=some s->W7 (s+rs.length):=fun p s hp e=>by
  have h1:=TX e
  have h2:=UZ hrs.1 (Ry e)
  exact⟨by have:=hp.1;omega,by omega⟩
 match k,hk with
 |1,_=>exact G5 hT Wl (by rfl') hp hn hc
 |2,_=>exact G4 hT Wl (by rfl') hp hn hc
 |3,_=>exact G3 hT Wl (by rfl') hp hn hc
 |0,h=>exact absurd h.1 (by decide)
 |k+4,h=>exact absurd h.2 (by omega)
theorem GP {n:Nat}{us:List Int}{rs:List (Option Int)}{pt:Int}{q:BB}{k:Nat}(hT:ZY G T0) (hh:Holds us q.bz q.zv q.gs q.cs) (hu:∀u∈us,isLt u) (hrs:1<=rs.length/\rs.length<=3) (hz:q.bz<=1000) (hp:W7 pt) (hk:k<=3):
  Z5 G (n+9) (.Z8 (.ref 655)) [Wa 8 9 10 11 12,.d (.int pt),.d (.int (-k))] (YH pt q q.bz (Z7 rs)) (Xv 13 (ZZ (VE (ZV us q.bz q.zv) q.bz rs) (fun s=>s) k pt none)) (YH pt q q.bz (Z7 rs)++YE rs.length (ZZ (VE (ZV us q.bz q.zv) q.bz rs) (fun s=>s) k pt none)):=by
 have hb:=hh.b
 have hc:∀p,W7 p->Z5 G (n+8) (Wa 8 9 10 11 12) [.d (.int p)] (YH pt q q.bz (Z7 rs)) (Xv 13 (VE (ZV us q.bz q.zv) q.bz rs p)) (YH pt q q.bz (Z7 rs)++YE rs.length (VE (ZV us q.bz q.zv) q.bz rs p)):=fun p hp=>
  D4 hT hh hu hrs hp (by omega) (by unfold VE;rw[Int.max_self])
 have hn:∀p s,W7 p->VE (ZV us q.bz q.zv) q.bz rs p=some s->W7 s:=fun p s hp e=>by
  have:=TV e
  exact⟨by omega,by have:=hp.2;omega⟩
 match k,hk with
 |0,_=>exact G2 hT Wl (by rfl') hp hn hc
 |1,_=>exact G1 hT Wl (by rfl') hp hn hc
 |2,_=>exact G0 hT Wl (by rfl') hp hn hc
 |3,_=>exact GZ hT Wl (by rfl') hp hn hc
 |k+4,h=>exact absurd h (by omega)
end
def FF (h:Heap) (l:List Env):Prop:=∀env∈l,env.scope.kind= .function/\∃L o,env.frame=some L/\h.get? L=some o/\∀vs,o.data≠ .fields vs
theorem FF.fun {h base:Heap}(hb:∀a,base.get? a=none):∀{l:List Env},FF h l->h.FunFrames base l
 | [],_=>trivial
 |env::r,x=>by
  obtain ⟨k,L,o,a,b,c⟩:=x env (List.mem_cons_self ..)
  exact⟨by rw[k];decide,⟨L,o,a,hb L,b,c⟩,FF.fun hb fun e he=>x e (aB _ he)⟩
theorem D0:∀a,(default:Heap).get? a=none:=fun a=>by
 cases e:(default:Heap).get? a with
 |none=>rfl
 |some o=>exact absurd (gJ e) (Nat.not_lt_zero _)
theorem none_of {V:Part}{a:Addr}(h:∀o,V a=some o->False):V a=none:=by
 cases e:V a with
 |none=>rfl
 |some o=>exact(h o e).elim
theorem N_ {V:Part}{a:Addr}{o:Obj}(h:V a=some o):V a≠none:=by rw[h];exact fun q=>nomatch q
theorem some_of {V:Part}{a:Addr}(h:V a≠none):∃o,V a=some o:=by
 cases e:V a with
 |none=>exact absurd e h
 |some o=>exact⟨o,rfl⟩
theorem Yn {C:Addr->Obj->Prop}{V:Part}{a:Addr}{o:Obj}(h1:C a o) (h2:∀x ox,x≠a->V x=some ox->C x ox):∀x ox,upd V a (some o) x=some ox->C x ox:=fun x ox h=>by
 by_cases z:x=a
 ·subst z;rw[Z6] at h;cases h;exact h1
 ·rw[Z2 z] at h;exact h2 x ox z h
theorem Mw {C:Addr->Obj->Prop}{V W:Part}(h1:∀a o,V a=some o->C a o) (h2:∀a o,W a=some o->C a o):∀a o,Xi V W a=some o->C a o:=fun a o h=>by
 cases e:V a with
 |some x=>rw[WY a x e] at h;cases h;exact h1 a _ e
 |none=>exact h2 a o (by unfold Xi at h;rw[e] at h;exact h)
inductive FT (V:Addr->Option Obj) (e:Addr) (vs:Array h_):Option h_->Prop
 |none (a:vs[1]?=some .none):FT V e vs none
 |some {x} (T oT ts) (a:T≠e) (b:vs[1]?=some (.ref T)) (c:V T=some oT) (f:oT.data= .fields ts) (g:ts[3]?=some x):FT V e vs (some x)
theorem FT.mono {V V':Addr->Option Obj}{e:Addr}{vs:Array h_}{fl:Option h_}(x:FT V e vs fl) (k:∀a o,V a=Option.some o->V' a=Option.some o):FT V' e vs fl:=by
 cases x with
 |none a=>exact .none a
 |some T oT ts a b c f g=>exact .some _ _ _ a b (k _ _ c) f g
theorem FT.off {V:Addr->Option Obj}{e:Addr}{vs:Array h_}(x:FT V e vs Option.none):vs[1]?=Option.some .none:=by
 cases x with|none a=>exact a
abbrev GO (h:Heap):=FT h.get?
section
variable {M:Model}{A:gY}{E:h_->g7->Prop}{s:g7}
inductive Qn (l:List Addr) (e:Addr) (T0:Option Addr) (oe:Obj) (x:h_) (h h':Heap):Prop
 |mk (rest:∀b o,h.get? b=some o->b≠e->T0≠some b->b∉l->h'.get? b=some o)
  (fr:∀b o,h.get? b=some o->b∈l->∃sl,h'.get? b=some {o with slots:=sl})
  (vs) (a:h'.get? e=some {oe with data:= .fields vs}) (b:1<vs.size) (T oT ts) (c:T≠e) (d:vs[1]?=some (.ref T)) (f:h.get? T=none) (g:h'.get? T=some oT) (i:oT.data= .fields ts) (j:ts[3]?=some x)
theorem N9 {env:Env}{outer:List Env}{L e:Addr}{oe:Obj}{vs:Array h_}{head:h_}{hadNext:Bool}{Q:Unit->g7->Prop}
  (hfr:A.frames=some (env::outer)) (hl:FF s.heap (env::outer)) (hf:env.frame=some L) (he:s.heap.get? e=some oe) (hd:oe.data= .fields vs) (hsz:1<vs.size)
  (h:∀h',Qn ((env::outer).filterMap (·.frame)) e none oe (rawInt L) s.heap h'->Q () {s with heap:=h'}):
  gW M A (do let a<-frameOf env;let pl<-entryPlaceOf L hadNext;let b<-EntryCells.newEntry head a .none (rawInt L) .none pl;setField (.ref e) 1 b) Q E s:=by
 have uZ:e∉(env::outer).filterMap (·.frame):=fun hm=>by
  obtain ⟨env',hin,hfe⟩:=b9.mp hm
  obtain ⟨_,L',o,a,b,c⟩:=hl env' hin
  rw[a] at hfe;injection hfe with hfe;subst hfe
  rw[he] at b;injection b with b;subst b;exact c vs hd
 refine g_ (wpAny_frameOf_fun hfr (hl.fun D0) hf fun ZU Xy=> ?_)
 refine g_ (wpAny_entryPlaceOf fun pl hpl=> ?_)
 unfold EntryCells.newEntry newFields
 refine g_ (b7 ?_ (hpl.sizeOk5 _ _ _ _ _))
 have Ct:ZU.get? e=some oe:=(Xy.2.1 e uZ).trans he
 have Cs:=gD (h:=ZU) {cls:= .type "traceback",dict:=none,data:= .fields ([head,.ref L,.none,rawInt L,.none]++(if pl.isEmpty then eH 6 fO else pl)).toArray} Ct
 refine aR Cs hd hsz (h _ ?_)
 have J7:ZU.objs.size≠e:=bU (gJ Ct)
 have uY:=cy hd (·.setIfInBounds 1 (eU ZU.objs.size))
 have Ij:=dm (dQ (·.setIfInBounds 1 (eU ZU.objs.size))) Cs (aQ uY)
 have uX:=(dR (ZU.push {cls:= .type "traceback",dict:=none,data:= .fields ([head,.ref L,.none,rawInt L,.none]++(if pl.isEmpty then eH 6 fO else pl)).toArray})
  (dQ (·.setIfInBounds 1 (eU ZU.objs.size))) (ff J7)).trans (fy ZU rfl)
 have keep:∀b o,b≠e->ZU.get? b=some o->
   ((ZU.push {cls:= .type "traceback",dict:=none,data:= .fields ([head,.ref L,.none,rawInt L,.none]++(if pl.isEmpty then eH 6 fO else pl)).toArray}).update e (dQ (·.setIfInBounds 1 (eU ZU.objs.size)))).get? b=some o:=
  fun b o As hb=>by
   rw[dR _ _ (ff As)]
   exact gD _ hb
 refine⟨fun b o hb As _ JG=>keep b o As ((Xy.2.1 b JG).trans hb),fun b o hb JG=> ?_,vs.setIfInBounds 1 (eU ZU.objs.size),?_,by simpa using hsz,ZU.objs.size,_,_,J7,by simp[hsz],?_,uX,rfl,by first|(simp;done)|(rcases hpl with rfl|⟨_,_,_,_,_,_,_,rfl⟩<;>simp)⟩
 ·obtain ⟨sl,hs⟩:=Xy.2.2 b o hb
  exact⟨sl,keep b _ (fun q=>uZ (q▸JG)) hs⟩
 ·rw[Ij]
  obtain ⟨c,d,dt,sl⟩:=oe
  obtain rfl:dt= .fields vs:=hd
  rfl
 ·cases q:s.heap.get? ZU.objs.size with
  |none=>rfl
  |some o=>exact absurd (gJ q) (by rw[Xy.1];exact eT _)
theorem Ar {env:Env}{outer:List Env}{L e:Addr}{oe:Obj}{vs:Array h_}{fl:Option h_}{Q:Unit->g7->Prop}
  (hfr:A.frames=some (env::outer)) (hl:FF s.heap (env::outer)) (hf:env.frame=some L) (he:s.heap.get? e=some oe) (hd:oe.data= .fields vs) (hsz:1<vs.size) (ht:GO s.heap e vs fl) (hfl:fl=none\/fl=some .none)
  (h:∀h' T0,(∀T,T0=some T->vs[1]?=some (.ref T))->Qn ((env::outer).filterMap (·.frame)) e T0 oe (rawInt L) s.heap h'->Q () {s with heap:=h'}):gW M A (noteFrame (.ref e) env) Q E s:=by
 unfold noteFrame
 simp only[hf]
 rcases hfl with rfl|rfl
 ·refine g_ (fQ he hd ht.off ?_)
  rw[if_neg (by decide)]
  exact N9 hfr hl hf he hd hsz fun h' N=>h h' none (fun _ q=>nomatch q) N
 ·obtain _|⟨T,oT,ts,J7,h1,hT,Nv,h3⟩:=ht
  refine g_ (fQ he hd h1 ?_)
  rw[if_pos (show (eU T !=fO)=true from by simp)]
  refine g_ (fQ hT Nv h3 ?_)
  rw[if_neg (show ¬((fO==rawInt L)=true) from by simp[rawInt])]
  refine g_ (aR hT Nv (au.mp h3).1 ?_)
  have other:∀b,b≠T->(s.heap.update T (dQ (·.setIfInBounds 3 fO))).get? b=s.heap.get? b:=fun b hb=>dR _ _ (ff hb)
  have GN:∀b o,s.heap.get? b=some o->(∀vs,o.data≠ .fields vs)->b≠T:=fun b o hb hnf q=>by
   rw[q,hT] at hb;injection hb with hb;subst hb;exact hnf ts Nv
  refine N9 hfr (fun env' hin=> ?_) hf ((other e (ff J7)).trans he) hd hsz fun h' N=> ?_
  ·obtain ⟨k,L',o,a,b,c⟩:=hl env' hin
   exact⟨k,L',o,a,(other L' (GN L' o b c)).trans b,c⟩
  ·obtain ⟨n1,n2,vs',n3,n4,T',za,ts',n5,n6,n7,n8,n9,jA⟩:=N
   refine h h' (some T) (fun _ q=>by cases q;exact h1) ⟨fun b o hb As uW JG=> ?_,fun b o hb JG=> ?_,vs',n3,n4,T',za,ts',n5,n6,?_,n8,n9,jA⟩
   ·have uW:b≠T:=fun q=>uW (by rw[q])
    exact n1 b o ((other b uW).trans hb) As (fun q=>nomatch q) JG
   ·refine n2 b o ((other b fun q=> ?_).trans hb) JG
    subst q
    obtain ⟨env',hin,hfe⟩:=b9.mp JG
    obtain ⟨_,L',o',a,b',c⟩:=hl env' hin
    rw[a] at hfe;injection hfe with hfe;subst hfe
    rw[hT] at b';injection b' with b';subst b';exact c ts Nv
   ·have hTT:T'≠T:=fun q=>by
     have:=dm (dQ (·.setIfInBounds 3 fO)) hT (aQ (cy Nv _))
     rw[<-q] at this
     rw[q] at this n7
     rw[this] at n7;cases n7
    exact(other T' hTT).symm.trans n7
theorem N8 {l:List Addr}{e:Addr}{T0:Option Addr}{oe:Obj}{x:h_}{h₀:Heap}{Q:Unit->g7->Prop}(hl:∀a∈l,∃o,h₀.get? a=some o/\∀vs,o.data≠ .fields vs) (hd:∃vs,oe.data= .fields vs) (N:Qn l e T0 oe x h₀ s.heap)
  (h:∀h',Qn l e T0 oe .none h₀ h'->Q () {s with heap:=h'}):gW M A (cu (.ref e) none) Q E s:=by
 obtain ⟨n1,n2,vs,n3,n4,T,oT,ts,J7,h1,hnew,hT,Nv,h3⟩:=N
 have GL:3<ts.size:=(au.mp h3).1
 have other:∀b,b≠T->(s.heap.update T (dQ (·.setIfInBounds 3 ((none:Option Addr).elim fO fun f=>rawInt f)))).get? b=s.heap.get? b:=
  fun b hb=>dR _ _ (ff hb)
 have old:∀b o,h₀.get? b=some o->b≠T:=fun b o hb q=>by rw[q,hnew] at hb;cases hb
 unfold cu
 refine g_ (fQ n3 rfl h1 ?_)
 rw[if_pos (show (eU T !=fO)=true from by simp)]
 refine aR hT Nv GL (h _ ⟨fun b o hb As uW JG=>(other b (old b o hb)).trans (n1 b o hb As uW JG),fun b o hb JG=> ?_,vs,(other e (ff J7)).trans n3,n4,T,_,_,J7,h1,hnew,dm _ hT (aQ (cy Nv _)),cy Nv _,by simp[GL]⟩)
 obtain ⟨sl,q⟩:=n2 b o hb JG
 exact⟨sl,(other b (old b o hb)).trans q⟩
theorem GK {env:Env}{outer:List Env}{L e:Addr}{oe:Obj}{vs:Array h_}{fl:Option h_}{Q:Unit->g7->Prop}
  (hfr:A.frames=some (env::outer)) (hl:FF s.heap (env::outer)) (hf:env.frame=some L) (he:s.heap.get? e=some oe) (hd:oe.data= .fields vs) (hsz:1<vs.size) (ht:GO s.heap e vs fl) (hfl:fl=none\/fl=some .none)
  (h:∀h' T0,(∀T,T0=some T->vs[1]?=some (.ref T))->Qn ((env::outer).filterMap (·.frame)) e T0 oe .none s.heap h'->Q () {s with heap:=h'}):gW M A (noteFrame (.ref e) env) (fun _ Uq=>gW M A (cu (.ref e) none) Q E Uq) E s:=by
 refine Ar hfr hl hf he hd hsz ht hfl fun h' T0 uV N=> ?_
 refine N8 (h₀:=s.heap) (fun a ha=> ?_) ⟨vs,hd⟩ N fun h' N'=>h h' T0 uV N'
 obtain ⟨env',hin,hfe⟩:=b9.mp ha
 obtain ⟨_,L',o,a,b,c⟩:=hl env' hin
 rw[a] at hfe;injection hfe with hfe;subst hfe
 exact⟨o,b,c⟩
end
inductive pV (C:Addr) (fl:Option h_) (ms:Str->Option h_) (e:Addr) (V:Part):Prop
 |mk (oe vs d od es ep) (a:V e=some oe) (b:oe.cls= .ref C) (c:oe.dict=some d) (f:oe.data= .fields vs) (g:1<vs.size) (i:V d=some od) (j:od.data= .dict es ep) (k:StrKeys es) (l:∀name,fH es name=ms name) (m:FT V e vs fl)
def QU (C:Addr) (fl:Option h_) (ms:Str->Option h_) (e:Addr):Part->Prop:=pV C fl ms e
def Rx (l:List Addr) (h':Heap) (V:Part):Part:=fun a=>match V a with|none=>none|some o=>if a∈l then h'.get? a else some o
theorem W_ {l:List Addr}{h':Heap}{V:Part}{a:Addr}(h:V a=none):Rx l h' V a=none:=by unfold Rx;rw[h]
theorem UB {l:List Addr}{h':Heap}{V:Part}{a:Addr}{o:Obj}(h:Rx l h' V a=some o):∃o0,V a=some o0/\((a∈l/\h'.get? a=some o)\/(a∉l/\o=o0)):=by
 unfold Rx at h
 cases q:V a with
 |none=>rw[q] at h;cases h
 |some o0=>
  rw[q] at h
  refine⟨o0,rfl,?_⟩
  by_cases m:a∈l
  ·simp only[if_pos m] at h;exact .inl ⟨m,h⟩
  ·simp only[if_neg m] at h;exact .inr ⟨m,(gj h).symm⟩
theorem Pf {l:List Addr}{h':Heap}{V1 V:Part}(k:Le V1 V):Le (Rx l h' V1) (Rx l h' V):=fun a o e=>by
 obtain ⟨o0,e0,q⟩:=UB e
 unfold Rx
 rw[k a o0 e0]
 rcases q with ⟨m,q⟩|⟨m,rfl⟩
 ·simp only[if_pos m];exact q
 ·simp only[if_neg m]
theorem UA:∀{fs:Frs}{V:Part},Z0 (frames fs) V->∀b∈Sn fs,V b≠none
 | [],_,_,_,h=>by cases h
 | .NC L m::fs,V,⟨V1,V2,d,l1,l2,⟨o,_,_,e,_⟩,r⟩,b,h=>by
  rcases gy.mp h with rfl|h
  ·rw[l1 _ _ e];exact fun z=>nomatch z
  ·intro q
   have:=UA r b h
   cases e2:V2 b with
   |none=>exact this e2
   |some o2=>rw[l2 _ _ e2] at q;cases q
 | .hid P::fs,V,⟨V1,V2,d,l1,l2,p,r⟩,b,h=>by
  intro q
  have:=UA r b h
  cases e2:V2 b with
  |none=>exact this e2
  |some o2=>rw[l2 _ _ e2] at q;cases q
theorem Z0.Rx {l:List Addr}{h':Heap}:∀{fs:Frs}{V:Part},Z0 (frames fs) V->(∀b∈l,V b≠none->b∈Sn fs)->(∀b∈l,∀o,V b=some o->∃sl,h'.get? b=some {o with slots:=sl})->Z0 (frames fs) (Mine.Rx l h' V)
 | [],_,_,_,_=>trivial
 | .NC L m::fs,V,⟨V1,V2,d,l1,l2,⟨o,es,ep,e,hd,hs,hf⟩,r⟩,hin,hsl=>by
  have n2:∀a,V1 a≠none->V2 a=none:=d
  refine⟨Mine.Rx l h' V1,Mine.Rx l h' V2,fun a ha=> ?_,Pf l1,Pf l2,?_,Z0.Rx r (fun b hb hv=> ?_) fun b hb o2 e2=>hsl b hb o2 (l2 _ _ e2)⟩
  ·cases q:V1 a with
   |none=>exact absurd (W_ q) ha
   |some o1=>exact W_ (d a (by rw[q];exact fun z=>nomatch z))
  ·by_cases ml:L∈l
   ·obtain ⟨sl,q⟩:=hsl L ml o (l1 _ _ e)
    exact⟨{o with slots:=sl},es,ep,by unfold Mine.Rx;rw[e];simp only[if_pos ml];exact q,hd,hs,hf⟩
   ·exact⟨o,es,ep,by unfold Mine.Rx;rw[e];simp only[if_neg ml],hd,hs,hf⟩
  ·cases q:V2 b with
   |none=>exact absurd q hv
   |some o2=>
    have:=hin b hb (by rw[l2 _ _ q];exact fun z=>nomatch z)
    rcases gy.mp this with rfl|h
    ·have:=d b (by rw[e];exact fun z=>nomatch z)
     rw[this] at q;cases q
    ·exact h
 | .hid P::fs,V,⟨V1,V2,d,l1,l2,p,r⟩,hin,hsl=>by
  have same:Mine.Rx l h' V1=V1:=by
   funext a
   cases q:V1 a with
   |none=>exact W_ q
   |some o1=>
    have nl:a∉l:=fun m=>by
     have h1:=hin a m (by rw[l1 _ _ q];exact fun z=>nomatch z)
     exact UA r a h1 (d a (by rw[q];exact fun z=>nomatch z))
    unfold Mine.Rx;rw[q];simp only[if_neg nl]
  refine⟨Mine.Rx l h' V1,Mine.Rx l h' V2,fun a ha=> ?_,Pf l1,Pf l2,same.symm▸p,Z0.Rx r (fun b hb hv=> ?_) fun b hb o2 e2=>hsl b hb o2 (l2 _ _ e2)⟩
  ·cases q:V1 a with
   |none=>exact absurd (W_ q) ha
   |some o1=>exact W_ (d a (by rw[q];exact fun z=>nomatch z))
  ·cases q:V2 b with
   |none=>exact absurd q hv
   |some o2=>exact hin b hb (by rw[l2 _ _ q];exact fun z=>nomatch z)
section
variable {hS h h':Heap}{B:Part}{L:Addr}{m:Str->Option h_}
theorem SS.noted {C e:Addr}{fl:Option h_}{ms:Str->Option h_}{fs:Frs}{l:List Addr}{x:h_}(S:SS hS B L m (QU C fl ms e::frames fs) h) (hl:∀b∈l,b=L\/b∈Sn fs)
  (N:∀oe vs,h.get? e=some oe->oe.data= .fields vs->1<vs.size->GO h e vs fl->∃T0,(∀T,T0=some T->vs[1]?=some (.ref T))/\Qn l e T0 oe x h h'):SS hS B L m (QU C (some x) ms e::frames fs) h':=by
 obtain ⟨V,S,V1,V2,dj,l1,l2,⟨oe,vs,d,od,es,ep,he,hc,hdi,hda,hsz,hd,FQ,Aq,hms,htb⟩,r⟩:=S
 have nz:∀{a:Addr}{o:Obj}{W:Part},W a=some o->W a≠none:=fun e q=>by rw[e] at q;cases q
 have tb:GO h e vs fl:=htb.mono fun a o c=>S.YW _ _ (l1 _ _ c)
 obtain ⟨T0,uV,n1,n2,vs',n3,n4,T,oT,ts,J7,k1,hnew,hT,Nv,k3⟩:=N oe vs (S.YW _ _ (l1 _ _ he)) hda hsz tb
 have hv:∀{a o},V a=some o->B a=none:=fun e=>S.vb _ _ e
 have tv:∀T',T0=some T'->∃oT,V1 T'=some oT/\∃ts,oT.data= .fields ts:=fun T' q=>by
  have q1:=uV T' q
  cases htb with
  |none a=>rw[a] at q1;cases q1
  |some _ _ _ a b c f g=>
   rw[b] at q1;cases q1
   exact⟨_,c,_,f⟩
 have old:∀{a o},h.get? a=some o->a≠T:=fun q p=>by rw[p,hnew] at q;cases q
 have sS:d≠e:=fun q=>by rw[q,he] at hd;cases hd;rw[hda] at FQ;cases FQ
 have dl:d∉l:=fun m=>by
  rcases hl d m with rfl|q
  ·have:=S.vl;rw[l1 _ _ hd] at this;cases this
  ·exact UA r d q (dj d (nz hd))
 have inl:∀b∈l,V2 b≠none->b∈Sn fs:=fun b hb q=>by
  rcases hl b hb with rfl|h
  ·cases e2:V2 b with
   |none=>exact absurd e2 q
   |some o2=>have:=S.vl;rw[l2 _ _ e2] at this;cases this
  ·exact h
 have dT:d≠T:=old (S.YW _ _ (l1 _ _ hd))
 let UR:Part:=upd (upd (upd (fun _=>none) d (some od)) e (some {oe with data:= .fields vs'})) T (some oT)
 have v1':∀a o,UR a=some o->a=T\/V1 a≠none:=Yn (.inl rfl) fun x ox _=>Yn (C:=fun x _=>x=T\/V1 x≠none) (.inr (nz he)) (fun x ox _=>Yn (C:=fun x _=>x=T\/V1 x≠none) (.inr (nz hd)) (fun x ox _ q=>by cases q) x ox) x ox
 have uU:∀a,UR a≠none->Rx l h' V2 a=none:=fun a q=>by
  obtain ⟨o,q⟩:=some_of q
  rcases v1' a o q with rfl|q
  ·exact W_ (none_of fun o2 e2=>old (S.YW _ _ (l2 _ _ e2)) rfl)
  ·exact W_ (dj a q)
 have nT:∀{a o},V a=some o->T0≠some a->a≠e->a∉l->h'.get? a=some o:=fun e p q m=>n1 _ _ (S.YW _ _ e) q p m
 have t1:∀{a o},V1 a=some o->(∀ts,o.data≠ .fields ts)->T0≠some a:=fun e k p=>by
  obtain ⟨za,c,ts',f⟩:=tv _ p
  rw[e] at c;cases c;exact k _ f
 have t2:∀{a o},V2 a=some o->a≠e/\T0≠some a:=fun{a o} q=>⟨fun p=>(by rw[p,dj e (nz he)] at q;cases q),fun p=>by
  obtain ⟨za,c,_⟩:=tv a p
  rw[dj a (nz c)] at q;cases q⟩
 have vL:=S.vl
 refine⟨Xi UR (Rx l h' V2),⟨S.st,fun a o q=> ?_,Mw (Yn hT fun x ox _=>Yn (C:=fun a o=>h'.get? a=some o) n3 (fun x ox _=>Yn (C:=fun a o=>h'.get? a=some o) (nT (l1 _ _ hd) (t1 hd fun ts f=>by rw[FQ] at f;cases f) sS dl) (fun x ox _ q=>by cases q) x ox) x ox) fun a o q=> ?_,?_,Mw (C:=fun a _=>B a=none) (fun a o q=> ?_) fun a o q=> ?_,none_of (Mw (C:=fun a _=>a=L->False) (fun a o q z=> ?_) (fun a o q z=> ?_) L · · rfl),S.bl⟩,UR,Rx l h' V2,uU,WY,Wg uU,⟨{oe with data:= .fields vs'},vs',d,od,es,ep,?_,hc,hdi,rfl,n4,?_,FQ,Aq,hms,.some _ _ _ J7 k1 (Z6 _ _ _) Nv k3⟩,Z0.Rx r inl fun b hb o2 e2=>n2 b o2 (S.YW _ _ (l2 _ _ e2)) hb⟩
 · -- what is kept
  refine n1 a o (S.keep _ _ q) (fun p=> ?_) (fun p=> ?_) (fun p=> ?_)
  ·rw[p,hv (l1 _ _ he)] at q;cases q
  ·obtain ⟨za,c,_⟩:=tv a p
   rw[hv (l1 _ _ c)] at q;cases q
  ·rcases hl a p with rfl|p
   ·rw[S.bl] at q;cases q
   ·obtain ⟨o2,e2⟩:=some_of (UA r a p)
    rw[hv (l2 _ _ e2)] at q;cases q
 · -- what is seen
  obtain ⟨o0,e0,c⟩:=UB q
  rcases c with ⟨m,c⟩|⟨m,rfl⟩
  ·exact c
  ·exact nT (l2 _ _ e0) (t2 e0).2 (t2 e0).1 m
 · -- iF sR names
  obtain ⟨o,es',JK,ho,Mv,r'⟩:=S.loc
  have hLe:L≠e:=fun q=>by rw[q,S.YW _ _ (l1 _ _ he)] at ho;cases ho;rw[hda] at Mv;cases Mv
  by_cases m:L∈l
  ·obtain ⟨sl,q⟩:=n2 L o ho m
   exact⟨_,es',JK,q,Mv,r'⟩
  ·refine⟨o,es',JK,n1 L o ho hLe (fun p=> ?_) m,Mv,r'⟩
   obtain ⟨za,c,ts',f⟩:=tv L p
   rw[l1 _ _ c] at vL;cases vL
 · -- nothing of it is kept apart
  rcases v1' a o q with rfl|q1
  ·exact none_of fun ob eb=>old (S.keep _ _ eb) rfl
  ·obtain ⟨o3,e3⟩:=some_of q1
   exact hv (l1 _ _ e3)
 ·obtain ⟨o0,e0,_⟩:=UB q
  exact hv (l2 _ _ e0)
 ·subst z
  rcases v1' a o q with q|q1
  ·obtain ⟨o,_,_,ho,_⟩:=S.loc
   exact old ho q
  ·obtain ⟨o3,e3⟩:=some_of q1
   rw[l1 _ _ e3] at vL;cases vL
 ·subst z
  obtain ⟨o0,e0,_⟩:=UB q
  rw[l2 _ _ e0] at vL;cases vL
 ·exact(Z2 (ff J7)).trans (Z6 _ _ _)
 ·exact(Z2 dT).trans ((Z2 sS).trans (Z6 _ _ _))
end
def WM (C:Addr) (sym:Str) (fl:Option h_):Addr->Part->Prop:=fun e V=>∃ms tk,ms "symbol" =some (.str sym tk)/\QU C fl ms e V
theorem TU:∀{fs:Frs}{V:Part},Z0 (frames fs) V->∀b∈Sn fs,∃o es ep,V b=some o/\o.data= .dict es ep
 | [],_,_,_,h=>by cases h
 | .NC L m::fs,V,⟨V1,V2,d,l1,l2,⟨o,es,ep,e,hd,_⟩,r⟩,b,h=>by
  rcases gy.mp h with rfl|h
  ·exact⟨o,es,ep,l1 _ _ e,hd⟩
  ·obtain ⟨o',es',JK,e',hd'⟩:=TU r b h
   exact⟨o',es',JK,l2 _ _ e',hd'⟩
 | .hid P::fs,V,⟨V1,V2,d,l1,l2,p,r⟩,b,h=>by
  obtain ⟨o',es',JK,e',hd'⟩:=TU r b h
  exact⟨o',es',JK,l2 _ _ e',hd'⟩
section
variable {G:Gm}{n:Nat}{Φ:Fm}{σ ZH:St}{X:XK}
theorem FF.of {A:gY}{L:Addr}{fs:Frs}{hS h:Heap}{B:Part}{m:Str->Option h_}{cs:List (Part->Prop)}(a:Wu n A L fs) (S:SS hS B L m (cs++frames fs) h):
  ∃l,A.frames=some l/\FF h l/\∀b∈l.filterMap (·.frame),b=L\/b∈Sn fs:=by
 obtain ⟨V,S,p⟩:=S
 have pf:Z0 (frames fs) V:=Z0.drop p
 obtain ⟨l,e,k⟩:=a.fr
 refine⟨l,e,fun env hin=> ?_,fun b hb=> ?_⟩
 ·obtain ⟨k1,k2,k3⟩:=k env hin
  rcases k3 with q|q
  ·obtain ⟨o,es,ep,ho,hd,_⟩:=S.loc
   exact⟨k1,L,o,by rw[k2,q],ho,fun vs z=>by rw[hd] at z;cases z⟩
  ·obtain ⟨o,es,ep,ho,hd⟩:=TU pf _ q
   exact⟨k1,env.locals,o,k2,S.YW _ _ ho,fun vs z=>by rw[hd] at z;cases z⟩
 ·obtain ⟨env,hin,hf⟩:=b9.mp hb
  obtain ⟨k1,k2,k3⟩:=k env hin
  rw[k2] at hf;cases hf;exact k3
theorem Rel.exc {L e:Addr}{ω:Wd}{fs:Frs}{h:Heap}{loc:List (Str×AV)}{H:List AO}{P:Addr->Part->Prop}{os:List Gh}(R:Rel G L ω ⟨loc,H++ [.X7 P],os⟩ fs h) (ha:ω.ρ[H.length]?=some e):
  ∃m,YS ω loc m/\SS G.hS ω.B L m (P e::frames ((parts ω.B ω.ρ (ω.ρ.take H.length) H).map .hid++fs)) h/\
   ∀P' h' os',SS G.hS ω.B L m (P' e::frames ((parts ω.B ω.ρ (ω.ρ.take H.length) H).map .hid++fs)) h'->Rel G L ω ⟨loc,H++ [.X7 P'],os'⟩ fs h':=by
 obtain ⟨m,lm,RR⟩:=R
 have hlen:ω.ρ.length=(H++ [AO.X7 P]).length:=RR.len
 rw[gA] at hlen
 have hlen:ω.ρ.length=H.length+1:=hlen
 have XD:ω.ρ=ω.ρ.take H.length++ [e]:=by
  have h1:=dz H.length ω.ρ
  have h2:ω.ρ.drop H.length= [e]:=by
   rw[bK (by omega),av (by omega)]
   rw[f9 (by omega)] at ha
   cases ha;rfl
  rw[h2] at h1;exact h1.symm
 have ep:∀P:Addr->Part->Prop,parts ω.B ω.ρ ω.ρ (H++ [.X7 P])=parts ω.B ω.ρ (ω.ρ.take H.length) H++ [P e]:=fun P=>by
  have:=X6 (B:=ω.B) (ρ:=ω.ρ) (r:=ω.ρ.take H.length) (H:=H) (a:=e) (o:= .X7 P) (by rw[fF];omega)
  rw[<-XD] at this;exact this
 refine⟨m,lm,?_,fun P' h' os' S'=>⟨m,lm,?_,?_⟩⟩
 ·refine RR.ss.YT fun V hV=> ?_
  have hV:Z0 (parts ω.B ω.ρ ω.ρ (H++ [.X7 P])++frames fs) V:=hV
  rw[ep,gG] at hV
  rw[Xc]
  exact Z0.YK hV
 ·show ω.ρ.length=(H++ [AO.X7 P']).length
  rw[gA];exact hlen
 ·refine S'.YT fun V hV=> ?_
  show Z0 (parts ω.B ω.ρ ω.ρ (H++ [.X7 P'])++frames fs) V
  rw[ep,gG]
  rw[Xc] at hV
  exact Z0.Yo hV
theorem N7 {A:gY}{L e C:Addr}{ω:Wd}{fs:Frs}{loc:List (Str×AV)}{H:List AO}{sym:Str}{fl:Option h_}{os:List Gh}{env:Env}{outer:List Env}{s:g7}{Q':Unit->g7->Prop}{E:h_->g7->Prop}
  (hA:Wu n A L fs) (hfr:A.frames=some (env::outer)) (hf:env.frame=some L) (R:Rel G L ω ⟨loc,H++ [.X7 (WM C sym fl)],os⟩ fs s.heap) (ha:ω.ρ[H.length]?=some e) (hfl:fl=none\/fl=some .none)
  (k:∀h',Rel G L ω ⟨loc,H++ [.X7 (WM C sym (some .none))],os⟩ fs h'->Q' () {s with heap:=h'}):gW (gO G.prog G.w) A (noteFrame (.ref e) env) (fun _ Uq=>gW (gO G.prog G.w) A (cu (.ref e) none) Q' E Uq) E s:=by
 obtain ⟨m,lm,S,back⟩:=R.exc ha
 obtain ⟨V,SV,V1,V2,d,l1,l2,⟨ms,tk,DZ,hex⟩,r⟩:=S
 have S1:SS G.hS ω.B L m (QU C fl ms e::frames ((parts ω.B ω.ρ (ω.ρ.take H.length) H).map .hid++fs)) s.heap:=⟨V,SV,V1,V2,d,l1,l2,hex,r⟩
 have qk:Wu n A L ((parts ω.B ω.ρ (ω.ρ.take H.length) H).map .hid++fs):=⟨hA.rm,by rw[RL];exact hA.fr⟩
 obtain ⟨l,e1,jz,hin⟩:=FF.of (cs:= [QU C fl ms e]) qk S1
 rw[hfr] at e1;cases e1
 obtain ⟨oe,vs,d',od,es,ep,he,hc,hdi,hda,hsz,hd,FQ,Aq,hms,htb⟩:=id hex
 have hge:=SV.YW _ _ (l1 _ _ he)
 have tb:GO s.heap e vs fl:=htb.mono fun a o c=>SV.YW _ _ (l1 _ _ c)
 refine GK hfr jz hf hge hda hsz tb hfl fun h' T0 uV N=> ?_
 refine k h' (back _ h' os ((S1.noted (x:= .none) hin fun mO vs' he' hd' _ _=> ?_).conv fun V q=>⟨ms,tk,DZ,q⟩))
 rw[hge] at he';cases he'
 rw[hda] at hd';cases hd'
 exact⟨T0,uV,N⟩
theorem J6 {A:gY}{L e C:Addr}{ω:Wd}{fs:Frs}{h:Heap}{loc:List (Str×AV)}{H:List AO}{sym:Str}{fl:Option h_}{os:List Gh}{env:Env}{outer:List Env}
  (hA:Wu n A L fs) (hfr:A.frames=some (env::outer)) (hf:env.frame=some L) (R:Rel G L ω ⟨loc,H++ [.X7 (WM C sym fl)],os⟩ fs h) (ha:ω.ρ[H.length]?=some e) (hfl:fl=none\/fl=some .none):
  W G.prog G.w A («leaving» env (.ref e)) (fun _ h'=>Rel G L ω ⟨loc,H++ [.X7 (WM C sym (some .none))],os⟩ fs h') (fun _ _=>False) h:=fun s Q' E hs k kx=>by
 subst hs
 unfold «leaving»
 exact g_ (N7 hA hfr hf R ha hfl fun h' R'=>k () h' s.toks R')
def Rb (G:Gm) (n:Nat) (f:AV) (as:List AV) (H:List AO) (C:Addr) (sym:Str) (Hx:List AO):Prop:=∀loc os,Ve G n f as ⟨loc,H,os⟩ (fun _ _=>False) fun a ZH=>a= .loc Hx.length/\ZH=⟨loc,Hx++ [.X7 (WM C sym (some .none))],os⟩
def XP (C:Addr) (sym:Str) (Hx:List AO):XK:=fun a ZH=>∃g fl,a= .loc (Hx++g).length/\ZH.hp=(Hx++g)++ [.X7 (WM C sym fl)]/\(fl=none\/fl=some .none)
theorem GJ {hS h:Heap}{B:Part}{L e:Addr}{m:Str->Option h_}{ρ:List Addr}{Hx g:List AO}{P:Addr->Part->Prop}{F:List (Part->Prop)}(hlen:ρ.length=((Hx++g)++ [AO.X7 P]).length) (ha:ρ[(Hx++g).length]?=some e) (hs:Y9 Hx.length Hx=true)
  (S:SS hS B L m (parts B ρ ρ ((Hx++g)++ [.X7 P])++F) h):SS hS B L m (parts B (ρ.take Hx.length++ [e]) (ρ.take Hx.length++ [e]) (Hx++ [.X7 P])++F) h:=by
 rw[gA,gA] at hlen
 have hlen:ρ.length=Hx.length+g.length+1:=hlen
 refine S.YT fun V hV=> ?_
 have XD:ρ=(ρ.take Hx.length++(ρ.drop Hx.length).take g.length)++ [e]:=by
  rw[<-List.take_add]
  have h1:=dz (Hx.length+g.length) ρ
  have h2:ρ.drop (Hx.length+g.length)= [e]:=by
   rw[bK (by omega),av (by omega)]
   rw[gA,f9 (by omega)] at ha
   cases ha;rfl
  rw[h2] at h1;exact h1.symm
 have hV:Z0 (parts B ρ (ρ.take Hx.length) Hx++(parts B ρ ((ρ.drop Hx.length).take g.length) g++(P e::F))) V:=by
  have h3:parts B ρ ρ ((Hx++g)++ [.X7 P])=(parts B ρ (ρ.take Hx.length) Hx++parts B ρ ((ρ.drop Hx.length).take g.length) g)++ [P e]:=by
   conv=>lhs;arg 3;rw[XD]
   rw[X6 (by simp;omega),Yr (by simp;omega)]
   rfl
  rw[h3] at hV
  simpa only [gG,List.singleton_append] using hV
 have hV:Z0 (parts B ρ (ρ.take Hx.length) Hx++(P e::F)) V:=Z0.RM (fun V x=>Z0.drop x) hV
 have hV:Z0 (parts B (ρ.take Hx.length) (ρ.take Hx.length) Hx++(P e::F)) V:=TH.parts Tr.sc (TH.sc hs) hV
 rw[X6 (by rw[fF];omega),gG]
 exact XM (fC _ _) Le.rfl hV
theorem WD {f C:Addr}{fn:Fn}{as:List AV}{sym:Str}{H Hx:List AO}(ok:Q6 G f fn) (hlen:as.length=fn.ps.length) (hex:fn.ex= []) (hl:Vy fn.sc fn.ps=true) (hd:distinct (cellsOf fn.sc.names [])=true)
  (hk:(gK H.length Hx.length && Y9 Hx.length Hx)=true)
  (x:∃os,X0 G n (KX fn H.length) fn.body ⟨Jc fn.sc fn.ps as,H++WX fn.sc fn.ps as,os⟩ (fun _ _=>False) (XP C sym Hx)):Rb G (n+1) (.Z8 (.ref f)) as H C sym Hx:=fun loc os=>by
 obtain ⟨hk1,hk2⟩:=g6.mp hk
 obtain ⟨Yq,x⟩:=x
 refine P4.cl fun L fs ω vs r A h hA R=> ?_
 obtain ⟨m,lm,R'⟩:=R
 obtain ⟨V,O,p⟩:=R'.ss.outer
 obtain ⟨lA,rj,_⟩:=id hA.fr
 refine U7 (F:=frames (Nl.NC L m::fs)) ok hlen hex hl hd hA.rm r R'.len O (Z0.Yo p) fun env Zw m₁ ZU he hf L_ len OR S=> ?_
 have Cr:=Wu.deeper (m:=m) hA he.kd hf rfl
 refine(x (fs:=Nl.NC L m::fs) he Cr ⟨m₁,OR,len,S⟩).mono (fun _ _ y=>y.no) fun e ZO y=> ?_
 obtain ⟨a,⟨pU,uT,mL⟩,Zl,⟨gg,fl,rfl,jy,hfl⟩,l',Zg,ad,mK,rfl⟩:=y
 obtain rfl:uT=(Hx++gg)++ [.X7 (WM C sym fl)]:=jy
 refine(J6 Cr (bB rj) hf Zg mK hfl).mono (fun _ X8 Jf=> ?_) fun _ _ z=>z.elim
 obtain ⟨xj,CS,GI,DY⟩:=Jf
 have xM:(Zl.ρ.take Hx.length).length=Hx.length:=by
  rw[fF,GI,gA,gA];exact cg (fN (cR _ _) (cR _ _))
 have lf:ω.le ⟨Zl.ρ.take Hx.length++ [ad],Zl.B⟩:=
  have:=(L_.trans l').cut (k:=Hx.length) (R'.len▸gp hk1)
  ⟨this.1.trans (fC _ _),this.2⟩
 refine⟨.loc Hx.length,_,⟨Zl.ρ.take Hx.length++ [ad],Zl.B⟩,⟨rfl,rfl⟩,lf,⟨m,lm.up lf,?_,((GJ GI mK hk2 DY).YT fun V hV=>Z0.YK hV).P5⟩,ad,?_,rfl⟩
 ·show (Zl.ρ.take Hx.length++ [ad]).length=(Hx++ [AO.X7 (WM C sym (some .none))]).length
  rw[gA,gA,xM];rfl
 ·show (Zl.ρ.take Hx.length++ [ad])[Hx.length]?=some ad
  rw[d9 (Nat.le_of_eq xM),xM,cQ];rfl
end
section
open PySem.Builtin PySem.Builtin.ObjectAttr
open PySem.Sem (wp)
section
variable {prog:gP}{w:g8}{A:gY}{E:h_->g7->Prop}{h:Heap}{g:Array GenState}{d:Drawn}{t:Nat}{os:gq}
section
variable {nm q:Str}{C N x:Addr}{bs bm:List h_}{sn:List Str}{sub:List h_}{ab:Bool}{col:Option Bool}{dd:Option Addr}{k0 k1 k2 k3 k5:Option h_}{B newId sa owner:String}
 {mN:Str->Option h_}{name:Str}{v:h_}
abbrev To (h:Heap) (x:Addr) (o:Obj) (name:Str) (v:h_) (h':Heap):Prop:=
 h'.get? x=some {o with dict:=some h.objs.size}/\(∃od es ep,h'.get? h.objs.size=some od/\od.data= .dict es ep/\StrKeys es/\UniqKeys es/\∀y,fH es y=if y=name then some v else none)/\∀b ob,b≠x->h.get? b=some ob->h'.get? b=some ob
set_option tactic.hygienic true in
theorem N6 {tk:Tok}{o:Obj}{Q:Fin->g7->Prop}(SF:StoreFacts B bm sa owner)
  (hC:h.get? C=some (dF nm q C N bs bm true sn sub ab col dd k0 k1 k2 k3 k5 newId)) (hn:h.Ns N mN) (hna:mN name=none)
  (hB:cD (.type B) name=pure none) (hx:h.get? x=some o) (hc:o.cls= .ref C) (hnc:∀c,o.data≠ .cls c) (hdn:o.dict=none)
  (hq:∀h' tk',To h x o name v h'->Q (.done (.ret .none)) ⟨h',g,d,tk',os⟩):
  gW (gO prog w) A (dY.«object.__setattr__» ⟨[.ref x,.str name tk,v],[]⟩) Q E ⟨h,g,d,t,os⟩:=by
 have hpass:=SF.passes (.ref x)
 unfold dY.«object.__setattr__»
 repeat (first|rw[refuse_eq]|(rw[refuseLoop_ref,hpass])|(with_reducible refine dP hx ?_;rw[hc])|with_reducible refine wpAny_mroOf_exc hC ?_|(with_reducible refine bI hC hn SF.mro hB ?_;rw[hna])|wp_step)
 rw[hdn,if_neg (by simp[typeHasDict])]
 split
 ·rename_i hcd
  cases hcd
 split
 ·rename_i c hcd
  exact absurd hcd (hnc c)
 ·have Cq:(h.push {cls:= .type "dict",data:= .dict #[]}).get? x=some o:=gD _ hx
  have hxs:x≠h.objs.size:=f_ (gJ hx)
  refine g_ (wpAny_alloc' ?_)
  refine g_ (wpAny_update' Cq ?_)
  refine gU ?_
  have hgd:((h.push {cls:= .type "dict",data:= .dict #[]}).update x fun o=>{cls:=o.cls,dict:=some h.objs.size,data:=o.data,slots:=o.slots}).get? h.objs.size
    =some {cls:= .type "dict",data:= .dict #[]}:=
   (Heap.get?_update_ne _ _ _ _ hxs.symm).trans (Heap.get?_push_at rfl rfl)
  have hnd:((h.push {cls:= .type "dict",data:= .dict #[]}).update x fun o=>{cls:=o.cls,dict:=some h.objs.size,data:=o.data,slots:=o.slots}).Ns h.objs.size (fun _=>none):=
   ⟨_,#[],_,hgd,rfl,fun e he=>absurd he (by simp),fun _=>rfl⟩
  show gW _ _ (storeInDict h.objs.size (.str name tk) name v) _ _ _
  unfold storeInDict newKeyGuard
  refine g_ (gU (g_ (wpAny_nsSet1 (Heap.Ns1.of_empty hnd) fun h' hn' hs=> ?_)))
  obtain ⟨oD,esD,iE,jx,jw,jv⟩:=hn'.count (Within.cons name v Within.nil)
  refine g_ (wpAny_lookBehind jx (by rw[jw];exact pastItsLine_dict (fN jv (by rw[fR,List.length_nil,sizeLine_eq];omega))) ?_)
  wp_walk
  refine hq h' _ ⟨?_,?_,fun b ob ju hb=> ?_⟩
  ·refine(hs.2 x hxs).trans (dm _ Cq ?_)
   have hfr:=(Heap.get?_some_iff.mp hx).2
   obtain ⟨oc,od,jt,osl⟩:=o
   cases jt<;>first|rfl|exact hfr
  ·obtain ⟨o',es,ep,e1,e2,e3,eu,e4⟩:=hn'
   exact⟨o',es,ep,e1,e2,e3,eu,fun y=>by rw[e4 y]⟩
  ·exact(hs.2 b (f_ (gJ hb))).trans ((Heap.get?_update_ne _ _ _ _ ju).trans (gD _ hb))
theorem Mu {o:Obj}{Q:Unit->g7->Prop}(SF:StoreFacts B bm sa owner)
  (hC:h.get? C=some (dF nm q C N bs bm true sn sub ab col dd k0 k1 k2 k3 k5 newId)) (hn:h.Ns N mN) (hns:mN "__setattr__" =none) (hna:mN name=none)
  (hB:cD (.type B) name=pure none) (hx:h.get? x=some o) (hc:o.cls= .ref C) (hnc:∀c,o.data≠ .cls c) (hdn:o.dict=none)
  (hq:∀h' tk',To h x o name v h'->Q () ⟨h',g,d,tk',os⟩):
  gW (gO prog w) A (fj (.ref x) name v) Q E ⟨h,g,d,t,os⟩:=by
 have f3:=SF.slot.bind (.ref x)
 unfold fj callSpecial? specialOf
 repeat (any_goals (first|assumption|(with_reducible refine dP hx ?_;rw[hc])|(with_reducible refine bI hC hn SF.mro SF.slot.lookup ?_;rw[hns])|wp_step))
 refine codeAny_call_builtin SF.slot.plain SF.entry (wpAny_check_sa SF hC hx hc (N6 SF hC hn hna hB hx hc hnc hdn fun h' tk' F=> ?_))
 repeat (any_goals (first|assumption|wp_step))
 exact hq h' tk' F
end
end
end
section
variable {hS h h':Heap}{B:Part}{L:Addr}{m:Str->Option h_}{cs:List (Part->Prop)}{P P':Part->Prop}
theorem SS.turn (S:SS hS B L m (P::cs) h) (k:∀V1,P V1->(∀a o,V1 a=some o->h.get? a=some o)->∃UR,P' UR/\(∀a o,UR a=some o->h'.get? a=some o)/\(∀a,UR a≠none->V1 a≠none\/h.get? a=none)/\(∀b o,V1 b=none->h.get? b=some o->h'.get? b=some o)):SS hS B L m (P'::cs) h':=by
 obtain ⟨V,S,V1,V2,dj,l1,l2,p,r⟩:=S
 obtain ⟨UR,p',s1,s2,s3⟩:=k V1 p fun a o e=>S.YW _ _ (l1 _ _ e)
 have nz:∀{a:Addr}{o:Obj}{W:Part},W a=some o->W a≠none:=fun e q=>by rw[e] at q;cases q
 have uU:∀a,UR a≠none->V2 a=none:=fun a q=>by
  rcases s2 a q with q|q
  ·exact dj a q
  ·cases e2:V2 a with
   |none=>rfl
   |some o2=>have:=S.YW _ _ (l2 _ _ e2);rw[q] at this;cases this
 have n1:∀{a o},B a=some o->V1 a=none:=fun{a o} e=>by
  cases e1:V1 a with
  |none=>rfl
  |some o1=>have:=S.vb _ _ (l1 _ _ e1);rw[e] at this;cases this
 have n2:∀{a o},V2 a=some o->V1 a=none:=fun{a o} e=>by
  cases e1:V1 a with
  |none=>rfl
  |some o1=>have:=dj a (nz e1);rw[e] at this;cases this
 have nL:V1 L=none:=by
  cases e1:V1 L with
  |none=>rfl
  |some o1=>have:=S.vl;rw[l1 _ _ e1] at this;cases this
 obtain ⟨oL,es,ep,hL,rL⟩:=id S.loc
 have GH:∀{a o},h.get? a=some o->V1 a=none->UR a=none:=fun{a o} e e1=>by
  cases q:UR a with
  |none=>rfl
  |some o'=>
   rcases s2 a (nz q) with z|z
   ·exact absurd e1 z
   ·rw[z] at e;cases e
 refine⟨Xi UR V2,⟨S.st,fun a o e=>s3 a o (n1 e) (S.keep _ _ e),fun a o e=> ?_,⟨oL,es,ep,s3 L oL nL hL,rL⟩,fun a o e=> ?_,?_,S.bl⟩,UR,V2,uU,WY,Wg uU,p',r⟩
 ·cases e1:UR a with
  |some o1=>rw[WY a o1 e1] at e;cases e;exact s1 _ _ e1
  |none=>rw[show Xi UR V2 a=V2 a by unfold Xi;rw[e1]] at e;exact s3 a o (n2 e) (S.YW _ _ (l2 _ _ e))
 ·cases eb:B a with
  |none=>rfl
  |some ob=>
   have h1:=S.keep _ _ eb
   have h2:=GH h1 (n1 eb)
   rw[show Xi UR V2 a=V2 a by unfold Xi;rw[h2]] at e
   have:=S.vb _ _ (l2 _ _ e);rw[eb] at this;cases this
 ·have h2:=GH hL nL
  rw[show Xi UR V2 L=V2 L by unfold Xi;rw[h2]]
  cases e2:V2 L with
  |none=>rfl
  |some o2=>have:=S.vl;rw[l2 _ _ e2] at this;cases this
end
def sQ:List h_:= [.type "Exception",.type "BaseException",.type "object"]
inductive pT (G:Gm) (C N:Addr):Prop
 |mk (nm q bs sn sub ab col dd k0 k1 k2 k3 k5) (h:G.K.lookup C=some (dF nm q C N bs sQ true sn sub ab col dd k0 k1 k2 k3 k5 "Exception.__new__"))
inductive jr (G:Gm) (N fI:Addr):Prop
 |mk (o es ep) (a:G.K.lookup N=some o) (b:o.data= .dict es ep) (c:StrKeys es) (d:fH es "__init__" =some (.ref fI)) (e:fH es "__setattr__" =none) (f:fH es "__getattribute__" =none) (g:fH es "__getattr__" =none) (h:fH es "symbol" =none) (i:fH es "data" =none)
structure SE (G:Gm) (C N fI:Addr):Prop where
 cls:pT G C N
 ns:jr G N fI
 fn:∃o,G.K.lookup fI=some o/\o.cls= .type "function"
def N5 (C:Addr) (e:Addr):Part->Prop:=fun V=>∃t,V e=some {cls:= .ref C,data:= .fields #[.ref t,.none,.none,.none,.bool false,.none]}
section
variable {G:Gm}{n:Nat}{Φ:Fm}{σ:St}{X:XK}
theorem DX {C N fI:Addr}{as:List AV}{K:AV->St->Prop}(xo:SE G C N fI) (x:P4 G n fI (.loc σ.hp.length::as) ⟨σ.loc,σ.hp++ [.X7 (N5 C)],σ.os⟩ (fun a ZH=>a= .d .none/\K (.loc σ.hp.length) ZH) X) (hsm:gK as.length 20=true):Ve G (n+1) (.Z8 (.ref C)) as σ K X:=fun L fs ω fv vs rf r A h hA R=>by
 obtain ⟨rfl,_⟩:fv= .ref C/\_:=rf
 intro s Q' E hs k kx
 subst hs
 obtain ⟨m,cs,S,new,_,_⟩:=R.cs
 obtain ⟨nm,q,bs,sn,sub,ab,col,dd,k0,k1,k2,k3,k5,hC⟩:=xo.cls
 obtain ⟨o,es,ep,hN,hd,hk,hi,_⟩:=xo.ns
 obtain ⟨oI,hI,jq⟩:=xo.fn
 have KI:G.K.In s.heap:=G.Z.k.keeps S.Z8
 obtain ⟨hp,g,d,t,os⟩:=s
 refine wpAny_call_exc_init (mN:=fun y=>fH es y) PySem.F.excBase_Exception (KI _ _ hC) ⟨o,es,ep,KI _ _ hN,hd,hk,fun _=>rfl⟩ hi (KI _ _ hI) jq (fun h' e hm=> ?_) (by rw[ZT.length r];exact fN (gp hsm) (by rw[sizeLine_eq];decide))
 obtain ⟨t',ht,_,_⟩:=hm.there
 have S':SS G.hS ω.B L m (N5 C e::cs) h':=S.Nd hm.keeps (upd (fun _=>none) e (some {cls:= .ref C,data:= .fields #[.ref t',.none,.none,.none,.bool false,.none]})) (fun b hb=>by
   by_cases q:b=e
   ·subst q;exact hm.new
   ·rw[Z2 q] at hb;exact absurd rfl hb) (fun b ob e1=>by
   by_cases q:b=e
   ·subst q;rw[Z6] at e1;cases e1;exact ht
   ·rw[Z2 q] at e1;cases e1) ⟨t',Z6 _ _ _⟩
 obtain ⟨R',r'⟩:=new e (.X7 (N5 C)) h' S'
 refine((x ⟨_,_,rfl,r',Xn.up .new r⟩ hA.make R').call).go (s:=⟨hp,g,d,t,os⟩) (h':=h') (tk:=t) (fun v ZO tk y=> ?_) fun pR ZO tk y=>kx pR ZO tk (y.up .new)
 obtain ⟨a,ZH,Zw,⟨e1,k'⟩,l',Zg,Yx⟩:=y
 subst e1
 refine⟨by unfold RV Rep Y8 at Yx;exact Yx,k _ ZO tk ⟨_,ZH,Zw,k',Wd.le.new.trans l',Zg,RV.up l' r'⟩⟩
end
inductive pQ (C:Addr) (sym:Str) (e:Addr) (V:Part):Prop
 |mk (oe vs d od es ep tk) (a:V e=some oe) (b:oe.cls= .ref C) (c:oe.dict=some d) (f:oe.data= .fields vs) (g:1<vs.size) (h:vs[1]?=some .none) (i:d≠e) (j:V d=some od) (k:od.data= .dict es ep) (l:StrKeys es) (m:UniqKeys es) (n:∀y,fH es y=if y="symbol" then some (.str sym tk) else none)
def DW (C:Addr) (sym:Str) (e:Addr):Part->Prop:=pQ C sym e
section
variable {G:Gm}{n:Nat}{Φ:Fm}{X:XK}
theorem DV {C N fI:Addr}{loc:List (Str×AV)}{H:List AO}{os:List Gh}{sym:Str}{K:St->Prop}(xo:SE G C N fI) (q:K ⟨loc,H++ [.X7 (DW C sym)],os⟩):
  Nj G n RU (fun u v=>fj u "symbol" v) (.loc H.length) (.d (.str sym)) ⟨loc,H++ [.X7 (N5 C)],os⟩ (fun _=>K) X:=fun L fs ω u v r r2 A h hA R s Q' E hs k kx=>by
 subst hs
 obtain ⟨e,ha,rfl⟩:=r
 obtain ⟨m,lm,S,back⟩:=R.exc ha
 have KI:G.K.In s.heap:=G.Z.k.keeps S.Z8
 obtain ⟨nm,qn,bs,sn,sub,ab,col,dd,k0,k1,k2,k3,k5,hC⟩:=xo.cls
 obtain ⟨oN,DU,uS,hN,uR,hkN,_,pP,_,_,pO,_⟩:=xo.ns
 obtain ⟨tk,rfl⟩:∃tk,v= .str sym tk:=by unfold RV Rep Y8 at r2;exact r2
 obtain ⟨V,SV,V1,V2,dj,l1,l2,⟨t0,he⟩,rr⟩:=id S
 have hge:=SV.YW _ _ (l1 _ _ he)
 obtain ⟨hp,g,d,t,os'⟩:=s
 refine Mu (mN:=fun y=>fH DU y) PySem.F.store_Exception (KI _ _ hC) ⟨oN,DU,uS,KI _ _ hN,uR,hkN,fun _=>rfl⟩ pP pO (by rw[typeLookup_type,aq];rfl') hge rfl (fun c z=>by cases z) rfl fun h' tk' F=> ?_
 obtain ⟨f1,⟨od,es,ep,f2,f3,f4,f5,f6⟩,f7⟩:=F
 refine k () h' tk' ⟨(),_,ω,q,.rfl,back _ h' os (S.turn fun W hW hs1=> ?_),trivial⟩
 obtain ⟨t1,hW⟩:=hW
 have hne:e≠hp.objs.size:=f_ (gJ hge)
 have hz:∀{o},hp.get? hp.objs.size≠some o:=fun{o} z=>absurd (gJ z) (eT _)
 have et:t1=t0:=by have:=hs1 _ _ hW;rw[hge] at this;cases this;rfl
 subst et
 refine⟨upd (upd (fun _=>none) hp.objs.size (some od)) e (some {cls:= .ref C,dict:=some hp.objs.size,data:= .fields #[.ref t1,.none,.none,.none,.bool false,.none]}),⟨_,_,hp.objs.size,od,es,ep,tk,Z6 _ _ _,rfl,rfl,rfl,(by decide:1<6),rfl,hne.symm,?_,f3,f4,f5,f6⟩,Yn f1 fun a o _=>Yn (C:=fun a o=>h'.get? a=some o) f2 (fun _ _ _ q=>by cases q) a o,fun a hn=> ?_,fun b ob eb hb=> ?_⟩
 ·rw[Z2 hne.symm];exact Z6 _ _ _
 ·obtain ⟨o,hn⟩:=some_of hn
  exact Yn (C:=fun a _=>W a≠none\/hp.get? a=none) (.inl (N_ hW)) (fun a o _=>Yn (C:=fun a _=>W a≠none\/hp.get? a=none) (.inr (none_of fun o z=>hz z)) (fun _ _ _ q=>by cases q) a o) a o hn
 ·refine f7 b ob (fun z=> ?_) hb
  subst z;rw[hW] at eb;cases eb
theorem DT {C N fI:Addr}{loc:List (Str×AV)}{H:List AO}{os:List Gh}{sym:Str}{a:AV}{K:St->Prop}(xo:SE G C N fI) (q:K ⟨loc,H++ [.X7 (WM C sym none)],os⟩):
  Nj G n RU (fun u v=>fj u "data" v) (.loc H.length) a ⟨loc,H++ [.X7 (DW C sym)],os⟩ (fun _=>K) X:=fun L fs ω u v r r2 A h hA R s Q' E hs k kx=>by
 subst hs
 obtain ⟨e,ha,rfl⟩:=r
 obtain ⟨m,lm,S,back⟩:=R.exc ha
 have KI:G.K.In s.heap:=G.Z.k.keeps S.Z8
 obtain ⟨nm,qn,bs,sn,sub,ab,col,dd,k0,k1,k2,k3,k5,hC⟩:=xo.cls
 obtain ⟨oN,DU,uS,hN,uR,hkN,_,pP,_,_,_,hda⟩:=xo.ns
 obtain ⟨V,SV,V1,V2,dj,l1,l2,⟨oe,vs,dx,od,es,ep,tk,he,hc,hdi,hdat,hsz,h1,sS,hd,FQ,Aq,jo,hnf⟩,rr⟩:=id S
 have hge:=SV.YW _ _ (l1 _ _ he)
 have hgd:=SV.YW _ _ (l1 _ _ hd)
 have jn:e≠C:=fun z=>by
  have:=KI _ _ hC
  rw[<-z,hge] at this;cases this;cases hc
 obtain ⟨hp,g,d,t,os'⟩:=s
 have I:hp.Inst e C (fun y=>if y="symbol" then some (.str sym tk) else none):=⟨oe,hge,hc,(fun c z=>by rw[hdat] at z;cases z),.inr ⟨dx,hdi,sS,od,es,ep,hgd,FQ,Aq,jo,hnf⟩⟩
 refine store_attr (mN:=fun y=>fH DU y) PySem.F.store_Exception (KI _ _ hC) ⟨oN,DU,uS,KI _ _ hN,uR,hkN,fun _=>rfl⟩ pP hda (by rw[typeLookup_type,aq];rfl') jn I (fun h' tk' I' hk' hsame=> ?_) (ns:= ["symbol"]) (fun y hy=> ?_) (by rw[sizeLine_eq];decide)
 ·obtain ⟨uQ,g1,g2,g3,g4,g5⟩:=hsame oe hge
  obtain ⟨jm,j1,j2,j3,j4⟩:=I'
  rw[g1] at j1;cases j1
  have hd1:=g5 dx hdi
  rcases j4 with ⟨j4,_⟩|⟨d',j4,j5,od',es',JK,j6,j7,j8,j9,jl⟩
  ·rw[j4] at hd1;cases hd1
  ·rw[hd1] at j4;cases j4
   refine k () h' tk' ⟨(),_,ω,q,.rfl,back _ h' os (S.turn fun W hW hs1=> ?_),trivial⟩
   obtain ⟨mO,vs',iD,jk,jj,ji,jh,he',hc',DS,mJ,hsz',x_,jg,hd',_⟩:=hW
   have:=hs1 _ _ he';rw[hge] at this;cases this
   rw[hdi] at DS;cases DS
   refine⟨upd (upd (fun _=>none) dx (some od')) e (some uQ),⟨fun y=>if y="data" then some v else if y="symbol" then some (.str sym tk) else none,tk,rfl,uQ,vs,dx,od',es',JK,Z6 _ _ _,j2,hd1,g3.trans hdat,hsz,?_,j7,j8,jl,.none h1⟩,Yn g1 fun a o _=>Yn (C:=fun a o=>h'.get? a=some o) j6 (fun _ _ _ q=>by cases q) a o,fun a hn=> ?_,fun b ob eb hb=> ?_⟩
   ·rw[Z2 j5];exact Z6 _ _ _
   ·obtain ⟨o,hn⟩:=some_of hn
    exact .inl (Yn (C:=fun a _=>W a≠none) (N_ he') (fun a o _=>Yn (C:=fun a _=>W a≠none) (N_ hd') (fun _ _ _ q=>by cases q) a o) a o hn)
   ·refine hk' b ob (fun z=> ?_) (fun jf dy z1 z2=> ?_) hb
    ·subst z;rw[he'] at eb;cases eb
    ·rw[hge] at z1;cases z1
     rw[hdi] at z2;cases z2
     intro z;subst z;rw[hd'] at eb;cases eb
 ·by_cases z:y="symbol"
  ·subst z;exact fK.mpr rfl
  ·rw[if_neg z] at hy;exact absurd rfl hy
end
section
variable {G:Gm}
def uP (x:Stmt):Expr:=XO 5 x (.Constant .none 0 default) fun h=> @aT (fun _=>Expr) x h fun l _ _=>l.head?.getD (.Constant .none 0 default)
def y_ (x:Stmt):Expr:=XO 5 x (.Constant .none 0 default) fun h=> @aT (fun _=>Expr) x h fun _ v _=>v
def pN (x:Stmt):Pos:=XO 5 x (default) fun h=> @aT (fun _=>Pos) x h fun _ _ p=>p
def pM (x:Expr):Expr:=Ye 20 x (.Constant .none 0 default) fun h=> @cY (fun _=>Expr) x h fun o _ _=>o
def pK (x:Expr):Pos:=Ye 20 x (default) fun h=> @cY (fun _=>Pos) x h fun _ _ p=>p
def y9 (x:Stmt):Expr:=XO 12 x (.Constant .none 0 default) fun h=> @cA (fun _=>Expr) x h fun t _ _ _=>t
def FP (x:Stmt):List Stmt:=XO 12 x ([]) fun h=> @cA (fun _=>List Stmt) x h fun _ b _ _=>b
def Ao (x:Stmt):List Stmt:=XO 12 x ([]) fun h=> @cA (fun _=>List Stmt) x h fun _ _ b _=>b
def yZ (x:Stmt):Pos:=XO 12 x (default) fun h=> @cA (fun _=>Pos) x h fun _ _ _ p=>p
def je (x:Stmt):Expr:=XO 16 x (.Constant .none 0 default) fun h=> @PySem.Stmt.Raise.elim (fun _=>Expr) x h fun l _ _=>l.getD (.Constant .none 0 default)
def jd (x:Stmt):Pos:=XO 16 x (default) fun h=> @PySem.Stmt.Raise.elim (fun _=>Pos) x h fun _ _ p=>p
def uO (x:Expr):Expr:=Ye 16 x (.Constant .none 0 default) fun h=> @cI (fun _=>Expr) x h fun f _ _ _=>f
def FO (x:Expr):List Expr:=Ye 16 x ([]) fun h=> @cI (fun _=>List Expr) x h fun _ a _ _=>a
def pJ (x:Expr):Pos:=Ye 16 x (default) fun h=> @cI (fun _=>Pos) x h fun _ _ _ p=>p
abbrev VD:Fn:=Zc 2 (some 0) ["self","symbol","data"] []
theorem J5:VD.body= [.Assign [.Attribute (pM (uP (VZ VD 0))) "symbol" (pK (uP (VZ VD 0)))] (y_ (VZ VD 0)) (pN (VZ VD 0)),.Assign [.Attribute (pM (uP (VZ VD 1))) "data" (pK (uP (VZ VD 1)))] (y_ (VZ VD 1)) (pN (VZ VD 1))]:=by rfl'
theorem S7 {n F:Nat}{Φ:Fm}{e:Expr}{σ:St}{K:AV->St->Prop}{X:XK}(hT:ZY G T0) (a:AV) (ZH:St) (h:(a=a/\ZH=ZH)=(ev G T0 F).e n Φ e σ (fun x s=>x=a/\s=ZH)) (k:K a ZH):Zd G n Φ e σ K X:=by
 refine J.imp ((ZA hT F).e (@cast _ _ h ⟨rfl,rfl⟩)) ?_ fun _ _ f=>f.elim
 rintro x s ⟨rfl,rfl⟩
 exact k
theorem QT {n F:Nat}{Φ:Fm}{e:Expr}{σ:St}{K:Bool->St->Prop}{X:XK}(hT:ZY G T0) (a:Bool) (ZH:St) (h:(a=a/\ZH=ZH)=(ev G T0 F).t n Φ e σ (fun x s=>x=a/\s=ZH)) (k:K a ZH):V5 G n Φ e σ K X:=by
 refine J.imp ((ZA hT F).t (@cast _ _ h ⟨rfl,rfl⟩)) ?_ fun _ _ f=>f.elim
 rintro x s ⟨rfl,rfl⟩
 exact k
theorem Uz {n F:Nat}{Φ:Fm}{es:List Expr}{σ:St}{K:List AV->St->Prop}{X:XK}(hT:ZY G T0) (as:List AV) (ZH:St) (h:(as=as/\ZH=ZH)=(ev G T0 F).es n Φ es σ (fun x s=>x=as/\s=ZH)) (k:K as ZH):SR G n Φ es σ K X:=by
 intro pos
 refine J.imp ((ZA hT F).es (@cast _ _ h ⟨rfl,rfl⟩) pos) ?_ fun _ _ f=>f.elim
 rintro x s ⟨rfl,rfl⟩
 exact k
theorem An {n:Nat}{C N:Addr}{loc:List (Str×AV)}{H:List AO}{os:List Gh}{sym:Str}{c:AV}{K:AV->St->Prop}{X:XK}(hT:ZY G T0) (xo:SE G C N 35) (q:K (.d .none) ⟨loc,H++ [.X7 (WM C sym none)],os⟩):
  P4 G (n+1) 35 [.loc H.length,.d (.str sym),c] ⟨loc,H++ [.X7 (N5 C)],os⟩ K X:=by
 let L:List (Str×AV):= [("self",.loc H.length),("symbol",.d (.str sym)),("data",c)]
 intro L0 zc AQ jc rr
 refine Mb (hT.fn 35 VD (by rfl')).1 rfl (by rfl') (by rfl') ?_ rr
 rw[J5]
 show X0 G n (fm VD) _ ⟨L,H++ [.X7 (N5 C)],os⟩ _ _
 refine YJ (R4 (by rfl') (by rfl') (by rfl') ?_)
 refine S7 (F:=10) hT (.d (.str sym)) ⟨L,H++ [.X7 (N5 C)],os⟩ (by rfl') ?_
 refine Uj ?_
 refine S7 (F:=10) hT (.loc H.length) ⟨L,H++ [.X7 (N5 C)],os⟩ (by rfl') ?_
 refine DV xo ?_
 refine YJ (R4 (by rfl') (by rfl') (by rfl') ?_)
 refine S7 (F:=10) hT c ⟨L,H++ [.X7 (DW C sym)],os⟩ (by rfl') ?_
 refine Uj ?_
 refine S7 (F:=10) hT (.loc H.length) ⟨L,H++ [.X7 (DW C sym)],os⟩ (by rfl') ?_
 refine DT xo ?_
 exact OU q
theorem DR {n:Nat}{Φ:Fm}{σ:St}{C N fI:Addr}{sym:Str}{e:Expr}{pos:Pos}{K:Zk->St->Prop}{X:XK}(xo:SE G C N fI)
  (x:Zd G n Φ e σ (fun a ZH=>∃H,a= .loc H.length/\ZH.hp=H++ [.X7 (WM C sym none)]/\X a ZH) X):We G n Φ (.Raise (some e) none pos) σ K X:=fun env ω fs he A h hA R s Q' E hs k kx=>by
 subst hs
 show gW (gO G.prog G.w) A (do standAt pos;raiseStmt env (some (do let v<-eval e env;standAt pos;pure v)) none) Q' E s
 refine g_ (cL ?_)
 unfold raiseStmt
 refine g_ (g_ (x he hA R s _ E rfl (fun v ZU tk y=>g_ (cL (gU ?_))) kx))
 obtain ⟨a,⟨Am,GG,uN⟩,ZR,⟨H,rfl,eh,hX⟩,ZX,ZK,rv⟩:=y
 have eh:GG=H++ [.X7 (WM C sym none)]:=eh
 subst eh
 have wM:=rv
 obtain ⟨ad,ha,rfl⟩:=wM
 obtain ⟨m,lm,S,_⟩:=ZK.exc ha
 obtain ⟨nm,qn,bs,sn,sub,ab,col,dd,k0,k1,k2,k3,k5,hC⟩:=xo.cls
 have hC:ZU.get? C=_:=G.Z.k.keeps S.Z8 _ _ hC
 obtain ⟨V,SV,V1,V2,dj,l1,l2,⟨ms,tk',DZ,oe,vs,dx,od,es,ep,pH,hc,hdi,hdat,hsz,hd,FQ,Aq,hms,h1⟩,rr⟩:=S
 have hge:ZU.get? ad=some oe:=SV.YW _ _ (l1 _ _ pH)
 have h1:vs[1]?=some fO:=FT.off h1
 obtain ⟨c,di,dt,sl⟩:=oe
 obtain rfl:c= .ref C:=hc
 obtain rfl:dt= .fields vs:=hdat
 have zd:(eU C::sQ).contains (.type "BaseException")=true:=by rw[List.contains_cons,show sQ.contains (.type "BaseException")=true from by decide,Bool.or_true]
 have hE:E (.ref ad) {s with heap:=ZU,toks:=tk}:=kx _ ZU tk ⟨_,_,ZR,hX,ZX,ZK,rv⟩
 have hh:=hA.hd
 clear kx k x
 obtain ⟨hp,g,d,t,os⟩:=s
 repeat (first|with_reducible refine dP hge ?_|with_reducible refine dP hC ?_|(with_reducible refine wpAny_isSubtype_exc hC ?_;rw[zd])|(with_reducible refine g_ (fQ hge rfl h1 ?_))|wp_step)
 exact wpAny_raiseNew_none hh hE
abbrev VC:Fn:=Zc 83 none ["editor","found","codes","is_forward"] []
abbrev uM:Stmt:=VZ VC 0
abbrev eW:Expr:=je ((FP uM)[0]?.getD (.Pass default))
def Al (l:List Expr):Expr:=l[0]?.getD (.Constant .none 0 default)
def jb (l:List Expr):Expr:=l[1]?.getD (.Constant .none 0 default)
theorem J4:VC.body= .If (y9 uM) [.Raise (some (.Call (uO eW) [Al (FO eW),jb (FO eW)] [] (pJ eW))) none (jd ((FP uM)[0]?.getD (.Pass default)))] (Ao uM) (yZ uM)::VC.body.drop 1:=by rfl'
theorem SD {n j:Nat}{N:Addr}{a:AV}{b:Bool}{H:List AO}(hT:ZY G T0) (xo:SE G 38 N 35) (kp:gw G.K (.ref 38)=true) (hs:Y9 H.length H=true):
  Rb G (n+3) (.Z8 (.ref 818)) [a,.d .none,.loc j,.d (.bool b)] H 38 "search-failed" H:=by
 refine WD (hT.fn 818 VC (by rfl')).1 rfl (by rfl') (by rfl') (by rfl') (by rw[hs,fT (gi _)];rfl) ⟨[],?_⟩
 let L:List (Str×AV):= [("editor",a),("found",.d .none),("codes",.loc j),("is_forward",.d (.bool b))]
 rw[J4]
 have e0:WX VC.sc VC.ps [a,.d .none,.loc j,.d (.bool b)]= []:=by rfl'
 rw[e0,gE]
 show X0 G (n+2) (KX VC H.length) _ ⟨L,H,[]⟩ _ _
 refine YJ (U9 ?_)
 refine QT (F:=10) hT true ⟨L,H,[]⟩ (by rfl') ?_
 refine YJ (DR xo (sym:="search-failed") ?_)
 refine PY ?_ (by rfl') (by rfl')
 refine S7 (F:=10) hT (.Z8 (.ref 38)) ⟨L,H,[]⟩ (by rfl') ⟨YC.Z8 kp,?_⟩
 show SR G (n+2) _ _ _ _ _
 refine Uz (F:=10) hT [.d (.str "search-failed"),.loc H.length] ⟨L,H++ [.list [.loc j]],[]⟩ (by rfl') ?_
 refine DX xo ?_ (by rfl')
 refine An hT xo ⟨rfl,?_⟩
 exact⟨H++ [.list [.loc j]],rfl,rfl,[.list [.loc j]],none,rfl,rfl,.inl rfl⟩
theorem J3 (a b:List Stmt) (env:Env):fY (a++b) env=(do match<-fY a env with| .next=>fY b env|f=>pure f):=by
 induction a with
 |nil=>rfl
 |cons s r ih=>
  rw[List.cons_append,arm_execs_cons,arm_execs_cons,ih,bind_assoc]
  congr 1
  funext f
  cases f<;>first|rfl|(exact(pure_bind _ _).symm)
theorem Xs {n:Nat}{Φ:Fm}{σ:St}{a b:List Stmt}{K:Zk->St->Prop}{X:XK}(x:X0 G n Φ a σ (fun fl ZH=>fl= .next/\X0 G n Φ b ZH K X) X):X0 G n Φ (a++b) σ K X:=fun env ω fs he A h hA R=>by
 rw[J3]
 refine W.bind ((x he hA R).mono (fun f ZU y=> ?_) fun _ _ p=>p)
 obtain ⟨fl,Z4,ZR,⟨rfl,k⟩,ZX,ZK,Zx⟩:=y
 obtain rfl:f= .next:=Zx
 exact(k (he.up ZX) hA ZK).mono (fun _ _ p=>p.up ZX) fun _ _ p=>p.up ZX
theorem Lu {n F:Nat}{Φ:Fm}{s:List Stmt}{σ:St}{K:Zk->St->Prop}{X:XK}(hT:ZY G T0) (fl:Zk) (ZH:St) (P:Prop) (h:P=(ev G T0 F).ss n Φ s σ (fun x t=>x=fl/\t=ZH)) (p:P) (k:K fl ZH):X0 G n Φ s σ K X:=by
 refine J.imp ((ZA hT F).ss (@cast _ _ h p)) ?_ fun _ _ f=>f.elim
 rintro x s ⟨rfl,rfl⟩
 exact k
theorem Vq {n:Nat}{Φ:Fm}{σ:St}{C:Addr}{sym:Str}{f:Expr}{a:Expr}{as:List Expr}{cp pos:Pos}{K:Zk->St->Prop}{Hx g:List AO}(hf:Up f=false) (ha:(a::as).any ZD=false)
  (hs:∀env,dN (.Call f (a::as) [] cp) none pos.line env=pure false)
  (x:Zd G n Φ f σ (fun fv Z4=>YC G fv/\SR G n Φ (a::as) Z4 (fun vs ZW=>∃H,ZW.hp=H/\Rb G n fv vs H C sym (Hx++g)) (XP C sym Hx)) (XP C sym Hx)):We G n Φ (.Expr (.Call f (a::as) [] cp) pos) σ K (XP C sym Hx):=by
 refine Nh ?_ hs
 refine PY ?_ hf ha
 refine J.imp x ?_ fun _ _ q=>q
 rintro fv Z4 ⟨hk,k⟩
 refine⟨hk,?_⟩
 intro pos'
 refine J.imp (k pos') ?_ fun _ _ q=>q
 rintro vs ⟨loc,hp,os⟩ ⟨_,rfl,c⟩
 intro L fs ω fv vs rf rv
 refine Pt.imp (c loc os rf rv) (fun _ _ z=>z.elim) ?_
 rintro a ZH ⟨rfl,rfl⟩
 exact⟨g,some .none,rfl,rfl,.inr rfl⟩
abbrev Yt (pt:Int) (q:BB) (l:List AV):List AO:=bw pt q++ [.tab 820 "search_by.<locals>.<lambda>",.tab 827 "re_search_by.<locals>.<lambda>",AL 9 12 13 18 14 15 16 17,AK 10 11,.dict [(1,.loc 0)],.Z_ [1],.dict [],.Z_ [],.dict [],.dict [],.inst 1340 [("sort",.d (.str "")),("many",.d (.int 0))],.Z_ [],V7 l]
abbrev ZM (pt:Int) (q:BB) (ws:List Int) (l:List AV):List AO:=Yt pt q l++ [.Z_ ws]
theorem TS {pt:Int}{q:BB}{ws:List Int}{l:List AV}{b:Bool}(hb:b=true) (hl:Zm l):(b && Y9 20 (ZM pt q ws l))=true:=by
 subst hb
 exact J8 hl (H:=fun X=>ZM pt q ws X) fun X=>by rfl'
def Ls (x:Stmt):Expr:=XO 24 x (.Constant .none 0 default) fun h=> @PySem.Stmt.Expr.elim (fun _=>Expr) x h fun e _=>e
def mH (x:Stmt):Pos:=XO 24 x (default) fun h=> @PySem.Stmt.Expr.elim (fun _=>Pos) x h fun _ p=>p
abbrev Tn (s:Stmt):Stmt:= .Expr (.Call (uO (Ls s)) (Al (FO (Ls s))::(FO (Ls s)).drop 1) [] (pJ (Ls s))) (mH s)
abbrev sP:Stmt:=VZ FW 3
abbrev pG:Stmt:=(FP sP)[0]?.getD (.Pass default)
theorem N4:FW.body=FW.body.take 3++ [.If (y9 sP) [Tn pG] (Ao sP) (yZ sP)]:=by rfl'
abbrev sO:Stmt:=VZ FU 3
abbrev pF:Stmt:=(FP sO)[0]?.getD (.Pass default)
theorem N3:FU.body=FU.body.take 3++ [.If (y9 sO) [Tn pF] (Ao sO) (yZ sO)]:=by rfl'
abbrev Rw (pt bz zv:Int):List AO:= [.cell (some (.d (.int bz))),.cell (some (.d (.int zv))),.cell (some (.loc 0)),.cell (some (.loc 19))]
abbrev uL (pt:Int) (q:BB) (ws:List Int) (l:List AV):List AO:=ZM pt q ws l++Rw pt q.bz q.zv
theorem Ak {n:Nat}{N:Addr}{k:Int}{ws:List Int}{pt:Int}{q:BB}{l:List AV}(hT:ZY G T0) (xo:SE G 38 N 35) (kp:gw G.K (.ref 38)=true) (hl:Zm l)
  (ha:Z5 G (n+8) (.Z8 (.ref 655)) [Pp 7 9 8,.d (.int pt),.d (.int k)] (hcl pt q ws q.zv) (.d .none) (hcl pt q ws q.zv)) (hk:decide (0<k)=true) (hk2:(!decide (k=0))=true):
  Rb G (n+9) (.Z8 (.ref 825)) [.loc 8,.loc 19,.d (.int k)] (ZM pt q ws l) 38 "search-failed" (ZM pt q ws l):=by
 let W:=ZM pt q ws l
 let Xk:=uL pt q ws l
 have a:Z5 G (n+8) (.Z8 (.ref 655)) [Pp 21 23 22,.d (.int pt),.d (.int k)] Xk (.d .none) Xk:=ha.at [0,1,2,3,4,5,19,21,22,23] (by rfl') (by rfl') (by rfl')
 let L:List (Str×AV):= [("editor",.loc 8),("count",.d (.int k)),("point",.d (.int pt)),("found",.d .none)]
 refine WD (hT.fn 825 FW (by rfl')).1 rfl (by rfl') (by rfl') (by rfl') (TS (by rfl') hl) ⟨[.t 706,.con 707 (.d .none) Xk,.t 710],?_⟩
 rw[N4]
 show X0 G (n+8) (KX FW 20) _ _ _ _
 refine Xs ?_
 refine Lu (F:=60) hT .next ⟨L,Xk,[.t 710]⟩ (decide (0<k)=true/\Z5 G (n+8) (.Z8 (.ref 655)) [Pp 21 23 22,.d (.int pt),.d (.int k)] Xk (.d .none) Xk/\Zk.next= .next/\(⟨L,Xk,[.t 710]⟩:St)=⟨L,Xk,[.t 710]⟩) (by rfl') ⟨hk,a,rfl,rfl⟩ ⟨rfl,?_⟩
 refine YJ (U9 ?_)
 refine J.imp ((ZA hT 20).t (K:=fun x t=>x=true/\t=⟨L,Xk,[]⟩) (@cast ((!decide (k=0))=true/\true=true/\(⟨L,Xk,[]⟩:St)=⟨L,Xk,[]⟩) _ (by rfl') ⟨hk2,rfl,rfl⟩)) ?_ fun _ _ f=>f.elim
 rintro x t ⟨rfl,rfl⟩
 refine YJ ?_
 refine Vq (Hx:=W) (g:=Rw pt q.bz q.zv) (by rfl') (by rfl') (fun _=>by rfl') ?_
 refine S7 (F:=10) hT (.Z8 (.ref 818)) ⟨L,Xk,[]⟩ (by rfl') ⟨YC.Z8 (hT.fn 818 VC (by rfl')).2,?_⟩
 refine Uz (F:=20) hT [.loc 8,.d .none,.loc 19,.d (.bool (decide (0<k)))] ⟨L,Xk,[]⟩ (by rfl') ⟨Xk,rfl,?_⟩
 exact SD hT xo kp (VI (H:=W) (M:=Rw pt q.bz q.zv) (TS (b:=true) rfl hl) (by rfl')|>fun h=>(g6.mp h).2)
theorem Aj {n:Nat}{N:Addr}{k:Int}{ws:List Int}{pt:Int}{q:BB}{l:List AV}(hT:ZY G T0) (xo:SE G 38 N 35) (kp:gw G.K (.ref 38)=true) (hl:Zm l)
  (ha:Z5 G (n+8) (.Z8 (.ref 655)) [S8 7 9 8,.d (.int pt),.d (.int k)] (hcl pt q ws q.bz) (.d .none) (hcl pt q ws q.bz)) (hk:decide (0<k)=false) (hk2:(!decide (k=0))=true):
  Rb G (n+9) (.Z8 (.ref 825)) [.loc 8,.loc 19,.d (.int k)] (ZM pt q ws l) 38 "search-failed" (ZM pt q ws l):=by
 let W:=ZM pt q ws l
 let Xk:=uL pt q ws l
 have a:Z5 G (n+8) (.Z8 (.ref 655)) [S8 20 23 22,.d (.int pt),.d (.int k)] Xk (.d .none) Xk:=ha.at [0,1,2,3,4,5,19,20,22,23] (by rfl') (by rfl') (by rfl')
 let L:List (Str×AV):= [("editor",.loc 8),("count",.d (.int k)),("point",.d (.int pt)),("found",.d .none)]
 refine WD (hT.fn 825 FW (by rfl')).1 rfl (by rfl') (by rfl') (by rfl') (TS (by rfl') hl) ⟨[.f 706,.con 709 (.d .none) Xk,.t 710],?_⟩
 rw[N4]
 show X0 G (n+8) (KX FW 20) _ _ _ _
 refine Xs ?_
 refine Lu (F:=60) hT .next ⟨L,Xk,[.t 710]⟩ (decide (0<k)=false/\Z5 G (n+8) (.Z8 (.ref 655)) [S8 20 23 22,.d (.int pt),.d (.int k)] Xk (.d .none) Xk/\Zk.next= .next/\(⟨L,Xk,[.t 710]⟩:St)=⟨L,Xk,[.t 710]⟩) (by rfl') ⟨hk,a,rfl,rfl⟩ ⟨rfl,?_⟩
 refine YJ (U9 ?_)
 refine J.imp ((ZA hT 20).t (K:=fun x t=>x=true/\t=⟨L,Xk,[]⟩) (@cast ((!decide (k=0))=true/\true=true/\(⟨L,Xk,[]⟩:St)=⟨L,Xk,[]⟩) _ (by rfl') ⟨hk2,rfl,rfl⟩)) ?_ fun _ _ f=>f.elim
 rintro x t ⟨rfl,rfl⟩
 refine YJ ?_
 refine Vq (Hx:=W) (g:=Rw pt q.bz q.zv) (by rfl') (by rfl') (fun _=>by rfl') ?_
 refine S7 (F:=10) hT (.Z8 (.ref 818)) ⟨L,Xk,[]⟩ (by rfl') ⟨YC.Z8 (hT.fn 818 VC (by rfl')).2,?_⟩
 refine Uz (F:=20) hT [.loc 8,.d .none,.loc 19,.d (.bool (decide (0<k)))] ⟨L,Xk,[]⟩ (by rfl') ⟨Xk,rfl,?_⟩
 exact SD hT xo kp (VI (H:=W) (M:=Rw pt q.bz q.zv) (TS (b:=true) rfl hl) (by rfl')|>fun h=>(g6.mp h).2)
theorem Vp {n:Nat}{ws:List Int}{pt:Int}{q:BB}{l:List AV}(hT:ZY G T0) (hl:Zm l) (hw:1<=ws.length/\ws.length<=3) (Qp:∀w∈ws,Qq w):
  Z5 G (n+9) (.Z8 (.ref 1365)) [.loc 8] (ZM pt q ws l++ZP) (.loc 0) (ZM pt q ws l++ZP)/\
  Z5 G (n+9) (.Z8 (.ref 483)) [.loc 19,.d (.bool true)] (ZM pt q ws l++ZP) (.loc 26) (ZM pt q ws l++ZP++Xu (Z7 (ws.map Yg)))/\
  Z5 G (n+10) (.Z8 (.ref 806)) [.loc 0] (ZM pt q ws l++Zu++Xu (Z7 (ws.map Yg))) .any (ZM pt q ws l++Zu++Xu (Z7 (ws.map Yg))):=by
 let R:=Z7 (ws.map Yg)
 have hR:Zm R:=YU _
 refine⟨?_,?_,?_⟩
 ·exact YY (F:=20) hT (J8 hl (H:=fun X=>ZM pt q ws X++ZP) fun X=>by rfl') [] (fun loc=>Post loc (.loc 0) (ZM pt q ws l++ZP) (.loc 0) ⟨loc,ZM pt q ws l++ZP,[]⟩) (fun loc=>by rfl') fun loc=>Z1 (by rfl')
 ·have c:=Mz (n:=n) hT hw Qp
  exact Z5.UU (L:=R) (H0:=fun X=> [.Z_ ws]) (X_:=fun X=> [.Z_ ws,Ay 2,.list X]) (Hb:=fun X=>ZM pt q ws l++ZP) (VM:=fun X=>ZM pt q ws l++ZP++Xu X) c (fun r=>YO _) [19] 26 (by rfl') (fun X=>by rfl') (fun X=>by rfl') (fun X=>by rfl')
 ·have s:Z5 G (n+9) (.Z8 (.ref 799)) [] (ZM pt q ws l++Zu++Xu R) .any (ZM pt q ws l++Zu++Xu R++ []):=Z5.ext (H:= []) (N:= []) (N':= []) (E:=ZM pt q ws l++Zu++Xu R) (GR (n:=n) hT) rfl rfl
  rw[gE] at s
  exact YY (F:=20) hT (My hl hR (H:=fun X Y=>ZM pt q ws X++Zu++Xu Y) fun X Y=>by rfl') [.con 695 .any (ZM pt q ws l++Zu++Xu R)] (fun loc=>Z5 G (n+9) (.Z8 (.ref 799)) [] (ZM pt q ws l++Zu++Xu R) .any (ZM pt q ws l++Zu++Xu R)/\Post loc .any (ZM pt q ws l++Zu++Xu R) .any ⟨loc,ZM pt q ws l++Zu++Xu R,[]⟩) (fun loc=>by rfl') fun loc=>⟨s,Z1 (by rfl')⟩
abbrev NZ (pt:Int) (q:BB) (ws:List Int) (l:List AV) (X:List AV):List AO:=ZM pt q ws l++RD pt q.bz q.zv++Xu X
theorem Ai {n:Nat}{N:Addr}{k:Int}{ws:List Int}{pt:Int}{q:BB}{l:List AV}(hT:ZY G T0) (xo:SE G 38 N 35) (kp:gw G.K (.ref 38)=true) (hl:Zm l) (hw:1<=ws.length/\ws.length<=3) (Qp:∀w∈ws,Qq w)
  (ha:Z5 G (n+10) (.Z8 (.ref 655)) [UE 8 9 10 11 12,.d (.int pt),.d (.int k)] (YH pt q q.zv (Z7 (ws.map Yg))) (.d .none) (YH pt q q.zv (Z7 (ws.map Yg)))) (hk:decide (0<k)=true) (hk2:(!decide (k=0))=true):
  Rb G (n+11) (.Z8 (.ref 832)) [.loc 8,.loc 19,.d (.int k)] (ZM pt q ws l) 38 "search-failed" (ZM pt q ws l):=by
 let R:=Z7 (ws.map Yg)
 have hR:Zm R:=YU _
 let W:=ZM pt q ws l
 let UX:=NZ pt q ws l R
 obtain ⟨k1,k2,_⟩:=Vp (n:=n+1) (pt:=pt) (q:=q) hT hl hw Qp
 have k3:=(Vp (n:=n) (pt:=pt) (q:=q) hT hl hw Qp).2.2
 have a:Z5 G (n+10) (.Z8 (.ref 655)) [UE 20 21 23 24 25,.d (.int pt),.d (.int k)] UX (.d .none) UX:=
  Z5.UU (L:=R) (H0:=fun X=>YH pt q q.zv X) (X_:=fun X=>YH pt q q.zv X) (Hb:=fun X=>NZ pt q ws l X) (VM:=fun X=>NZ pt q ws l X) ha (fun r=>YO _) [0,1,2,3,4,5,26,27,20,21,23,24,25] 28 (by rfl') (fun X=>by rfl') (fun X=>by rfl') (fun X=>by rfl')
 let L:List (Str×AV):= [("editor",.loc 8),("codes",.loc 19),("count",.d (.int k)),("found",.d .none)]
 refine WD (hT.fn 832 FU (by rfl')).1 rfl (by rfl') (by rfl') (by rfl') (TS (by rfl') hl) ⟨[.con 713 (.loc 0) (W++ZP),.con 713 (.loc 26) (W++ZP++Xu R),.con 714 .any (W++Zu++Xu R),.t 715,.con 716 (.d .none) UX,.t 719],?_⟩
 rw[N3]
 show X0 G (n+10) (KX FU 20) _ _ _ _
 refine Xs ?_
 refine Lu (F:=60) hT .next ⟨L,UX,[.t 719]⟩ (Z5 G (n+10) (.Z8 (.ref 1365)) [.loc 8] (ZM pt q ws l++ZP) (.loc 0) (ZM pt q ws l++ZP)/\
    Z5 G (n+10) (.Z8 (.ref 483)) [.loc 19,.d (.bool true)] (ZM pt q ws l++ZP) (.loc 26) (ZM pt q ws l++ZP++Xu R)/\
    Z5 G (n+10) (.Z8 (.ref 806)) [.loc 0] (ZM pt q ws l++Zu++Xu R) .any (ZM pt q ws l++Zu++Xu R)/\decide (0<k)=true/\
    Z5 G (n+10) (.Z8 (.ref 655)) [UE 20 21 23 24 25,.d (.int pt),.d (.int k)] UX (.d .none) UX/\Zk.next= .next/\(⟨L,UX,[.t 719]⟩:St)=⟨L,UX,[.t 719]⟩) (by rfl') ⟨k1,k2,k3,hk,a,rfl,rfl⟩ ⟨rfl,?_⟩
 refine YJ (U9 ?_)
 refine J.imp ((ZA hT 20).t (K:=fun x t=>x=true/\t=⟨L,UX,[]⟩) (@cast ((!decide (k=0))=true/\true=true/\(⟨L,UX,[]⟩:St)=⟨L,UX,[]⟩) _ (by rfl') ⟨hk2,rfl,rfl⟩)) ?_ fun _ _ f=>f.elim
 rintro x t ⟨rfl,rfl⟩
 refine YJ ?_
 refine Vq (Hx:=W) (g:=RD pt q.bz q.zv++Xu R) (by rfl') (by rfl') (fun _=>by rfl') ?_
 refine S7 (F:=10) hT (.Z8 (.ref 818)) ⟨L,UX,[]⟩ (by rfl') ⟨YC.Z8 (hT.fn 818 VC (by rfl')).2,?_⟩
 refine Uz (F:=20) hT [.loc 8,.d .none,.loc 19,.d (.bool (decide (0<k)))] ⟨L,UX,[]⟩ (by rfl') ⟨UX,rfl,?_⟩
 exact SD (H:=UX) hT xo kp (by
  have h:=My hl hR (H:=fun X Y=>NZ pt q ws X Y) (b:=true) (K:=28) fun X Y=>by rfl'
  exact(g6.mp h).2)
theorem Ah {n:Nat}{N:Addr}{k:Int}{ws:List Int}{pt:Int}{q:BB}{l:List AV}(hT:ZY G T0) (xo:SE G 38 N 35) (kp:gw G.K (.ref 38)=true) (hl:Zm l) (hw:1<=ws.length/\ws.length<=3) (Qp:∀w∈ws,Qq w)
  (ha:Z5 G (n+10) (.Z8 (.ref 655)) [Wa 8 9 10 11 12,.d (.int pt),.d (.int k)] (YH pt q q.bz (Z7 (ws.map Yg))) (.d .none) (YH pt q q.bz (Z7 (ws.map Yg)))) (hk:decide (0<k)=false) (hk2:(!decide (k=0))=true):
  Rb G (n+11) (.Z8 (.ref 832)) [.loc 8,.loc 19,.d (.int k)] (ZM pt q ws l) 38 "search-failed" (ZM pt q ws l):=by
 let R:=Z7 (ws.map Yg)
 have hR:Zm R:=YU _
 let W:=ZM pt q ws l
 let UX:=NZ pt q ws l R
 obtain ⟨k1,k2,_⟩:=Vp (n:=n+1) (pt:=pt) (q:=q) hT hl hw Qp
 have k3:=(Vp (n:=n) (pt:=pt) (q:=q) hT hl hw Qp).2.2
 have a:Z5 G (n+10) (.Z8 (.ref 655)) [Wa 20 21 22 24 25,.d (.int pt),.d (.int k)] UX (.d .none) UX:=
  Z5.UU (L:=R) (H0:=fun X=>YH pt q q.bz X) (X_:=fun X=>YH pt q q.bz X) (Hb:=fun X=>NZ pt q ws l X) (VM:=fun X=>NZ pt q ws l X) ha (fun r=>YO _) [0,1,2,3,4,5,26,27,20,21,22,24,25] 28 (by rfl') (fun X=>by rfl') (fun X=>by rfl') (fun X=>by rfl')
 let L:List (Str×AV):= [("editor",.loc 8),("codes",.loc 19),("count",.d (.int k)),("found",.d .none)]
 refine WD (hT.fn 832 FU (by rfl')).1 rfl (by rfl') (by rfl') (by rfl') (TS (by rfl') hl) ⟨[.con 713 (.loc 0) (W++ZP),.con 713 (.loc 26) (W++ZP++Xu R),.con 714 .any (W++Zu++Xu R),.f 715,.con 718 (.d .none) UX,.t 719],?_⟩
 rw[N3]
 show X0 G (n+10) (KX FU 20) _ _ _ _
 refine Xs ?_
 refine Lu (F:=60) hT .next ⟨L,UX,[.t 719]⟩ (Z5 G (n+10) (.Z8 (.ref 1365)) [.loc 8] (ZM pt q ws l++ZP) (.loc 0) (ZM pt q ws l++ZP)/\
    Z5 G (n+10) (.Z8 (.ref 483)) [.loc 19,.d (.bool true)] (ZM pt q ws l++ZP) (.loc 26) (ZM pt q ws l++ZP++Xu R)/\
    Z5 G (n+10) (.Z8 (.ref 806)) [.loc 0] (ZM pt q ws l++Zu++Xu R) .any (ZM pt q ws l++Zu++Xu R)/\decide (0<k)=false/\
    Z5 G (n+10) (.Z8 (.ref 655)) [Wa 20 21 22 24 25,.d (.int pt),.d (.int k)] UX (.d .none) UX/\Zk.next= .next/\(⟨L,UX,[.t 719]⟩:St)=⟨L,UX,[.t 719]⟩) (by rfl') ⟨k1,k2,k3,hk,a,rfl,rfl⟩ ⟨rfl,?_⟩
 refine YJ (U9 ?_)
 refine J.imp ((ZA hT 20).t (K:=fun x t=>x=true/\t=⟨L,UX,[]⟩) (@cast ((!decide (k=0))=true/\true=true/\(⟨L,UX,[]⟩:St)=⟨L,UX,[]⟩) _ (by rfl') ⟨hk2,rfl,rfl⟩)) ?_ fun _ _ f=>f.elim
 rintro x t ⟨rfl,rfl⟩
 refine YJ ?_
 refine Vq (Hx:=W) (g:=RD pt q.bz q.zv++Xu R) (by rfl') (by rfl') (fun _=>by rfl') ?_
 refine S7 (F:=10) hT (.Z8 (.ref 818)) ⟨L,UX,[]⟩ (by rfl') ⟨YC.Z8 (hT.fn 818 VC (by rfl')).2,?_⟩
 refine Uz (F:=20) hT [.loc 8,.d .none,.loc 19,.d (.bool (decide (0<k)))] ⟨L,UX,[]⟩ (by rfl') ⟨UX,rfl,?_⟩
 exact SD (H:=UX) hT xo kp (by
  have h:=My hl hR (H:=fun X Y=>NZ pt q ws X Y) (b:=true) (K:=28) fun X Y=>by rfl'
  exact(g6.mp h).2)
theorem Rb.at {n:Nat}{f f':AV}{as as':List AV}{H0 Hx Hb pD:List AO}{C:Addr}{sym:Str}(c:Rb G n f as H0 C sym Hx) (e:List Nat)
  (h1:(Tq e && gK e.length (Hx++ [AO.X7 (WM C sym (some .none))]).length)=true) (h2:(e.map fun i=>Hb[i]?)=(YI (Mine.YN e Hb.length) H0).map some)
  (h3:(f.Yb (Mine.YN e Hb.length),Yk (Mine.YN e Hb.length) as,(AV.loc Hx.length).Yb (Mine.YN e Hb.length),XA e ((YI (Mine.YN e Hb.length) (Hx++ [AO.X7 (WM C sym (some .none))])).take e.length) (Uc e Hb)++(YI (Mine.YN e Hb.length) (Hx++ [AO.X7 (WM C sym (some .none))])).drop e.length)=(f',as',.loc pD.length,pD++ [.X7 (WM C sym (some .none))])):Rb G n f' as' Hb C sym pD:=fun loc os L fs ω fv vs rf rv A h hA R=>by
 obtain ⟨d1,d2⟩:=g6.mp h1
 simp only[bL] at h3
 obtain ⟨rfl,rfl,h3,h4⟩:=h3
 obtain ⟨V8,AQ,zc,qj,wM,qi,R0,k⟩:=Oq e (YB.of d1 h2) rf rv hA R
 refine(c V8 os qj wM qi R0).mono (fun _ _ y=>y.no) fun v h' y=> ?_
 have:=k _ _ d2 v h' y
 rw[h3,h4] at this
 exact this
theorem Rb.UU {n:Nat}{f f':AV}{as as':List AV}{L:List AV}{H0 Hb:List AV->List AO}{C:Addr}{sym:Str}(c:Rb G n f as (H0 L) C sym (H0 L)) (hL:∀r,Yk r L=L) (e:List Nat) (k:Nat)
  (h1:(Tq e && gK e.length (H0 L++ [AO.X7 (WM C sym (some .none))]).length)=true) (hk:∀X,(Hb X).length=k) (h2:∀X,(e.map fun i=>(Hb (Yk (Mine.YN e k) X))[i]?)=(YI (Mine.YN e k) (H0 X)).map some)
  (h3:∀X,(f.Yb (Mine.YN e k),Yk (Mine.YN e k) as,(AV.loc (H0 X).length).Yb (Mine.YN e k),XA e ((YI (Mine.YN e k) (H0 X++ [AO.X7 (WM C sym (some .none))])).take e.length) (Uc e (Hb (Yk (Mine.YN e k) X)))++(YI (Mine.YN e k) (H0 X++ [AO.X7 (WM C sym (some .none))])).drop e.length)=(f',as',.loc k,Hb (Yk (Mine.YN e k) X)++ [.X7 (WM C sym (some .none))])):Rb G n f' as' (Hb L) C sym (Hb L):=by
 have a:=h2 L
 have b:=h3 L
 rw[hL] at a b
 refine c.at e h1 ?_ ?_
 ·rw[hk];exact a
 ·rw[hk];exact b
inductive Out|quiet|hit (s:Int)|miss
def NY (k:Int) (o:Option Int):Out:=match decide (k=0),o with|true,_=> .quiet|false,some s=> .hit s|false,none=> .miss
def CO (G:Gm) (n:Nat) (f:AV) (as:List AV) (H:List AO) (o:Out) (Hh:Int->List AO):Prop:=match o with
 | .quiet=>Z5 G n f as H (.d .none) H
 | .hit s=>Z5 G n f as H (.d .none) (Hh s)
 | .miss=>Rb G n f as H 38 "search-failed" H
structure DQ (l:List AV):Prop where
 sc:Zm l
 Yb:∀r,Yk r l=l
def sN (f:Int->Int) (bz zv:Int) (ws:List Int) (k pt:Int):Option Int:=match decide (0<k) with|true=>ZZ (RA f zv ws) (fun s=>s+ws.length) k.toNat pt none|false=>ZZ (Rz f bz ws) (fun s=>s) (-k).toNat pt none
def sM (f:Int->Int) (bz zv:Int) (rs:List (Option Int)) (k pt:Int):Option Int:=match decide (0<k) with|true=>ZZ (VF f zv rs) (fun s=>s+rs.length) k.toNat pt none|false=>ZZ (VE f bz rs) (fun s=>s) (-k).toNat pt none
def Wj (k m bz zv s:Int):Int:=match decide (0<k) with|true=>min (max (s+m) bz) zv|false=>min (max s bz) zv
abbrev Tj (s m:Int):List AV:= [.d (.tup [.int s,.int (s+m)])]
structure GF (us:List Int) (pt bz zv gs:Int) (cs:List Int) (k:Int):Prop where
 hh:Holds us bz zv gs cs
 hu:∀u∈us,isLt u
 hz:bz<=1000/\zv<=1000/\0<=zv
 hp:W7 pt
 hk: -3<=k/\k<=3
theorem uK {n:Nat}{N:Addr}{k:Int}{us ws:List Int}{pt:Int}{q:BB}{l:List AV}(hT:ZY G T0) (xo:SE G 38 N 35) (kp:gw G.K (.ref 38)=true) (hl:DQ l) (a:GF us pt q.bz q.zv q.gs q.cs k) (hw:∀w∈ws,isLt w) (hl3:1<=ws.length/\ws.length<=3):
  CO G (n+9) (.Z8 (.ref 825)) [.loc 8,.loc 19,.d (.int k)] (ZM pt q ws l) (NY k (sN (ZV us q.bz q.zv) q.bz q.zv ws k pt)) (fun s=>ZM (Wj k ws.length q.bz q.zv s) q ws (Tj s ws.length)):=by
 obtain ⟨hh,hu,hz,hp,hk⟩:=a
 have hws:ws.length<=100:=by have:=hl3.2;omega
 by_cases k0:k=0
 ·subst k0
  show Z5 G (n+9) _ _ (ZM pt q ws l) (.d .none) (ZM pt q ws l)
  have ha:=Cu (n:=n) (pt:=pt) (q:=q) (k:=0) (ws:=ws) hT hh hu hw hws hz.1 hp (by decide)
  have c:=vC (n:=n) (pt:=pt) (q:=q) (ws:=ws) (l:=l) hT hl.sc ((gE (hcl pt q ws q.bz))▸ha)
  exact Z5.UU (L:=l) (H0:=fun X=>Ym pt q ws++ed (V7 X)) (X_:=fun X=>Ym pt q ws++ed (V7 X)) (Hb:=fun X=>ZM pt q ws X) (VM:=fun X=>ZM pt q ws X) c hl.Yb [0,1,2,3,4,5,19,6,8,9,10,11,12,13,14,15,16,17,18] 20 (by rfl') (fun X=>by rfl') (fun X=>by rfl') (fun X=>by rfl')
 ·have hk2:(!decide (k=0))=true:=by rw[decide_eq_false k0];rfl
  unfold NY sN
  rw[decide_eq_false k0]
  by_cases uJ:0<k
  ·have hk1:decide (0<k)=true:=decide_eq_true uJ
   have ek:((k.toNat:Nat):Int)=k:=by omega
   have ha:=u_ (n:=n) (pt:=pt) (q:=q) (k:=k.toNat) (ws:=ws) hT hh hu hw hws hz.2.1 hp hz.2.2 (by omega)
   rw[ek] at ha
   rw[hk1]
   dsimp only
   revert ha
   cases ZZ (RA (ZV us q.bz q.zv) q.zv ws) (fun s=>s+ws.length) k.toNat pt none with
   |none=>
    intro ha
    show Rb G (n+9) _ _ (ZM pt q ws l) 38 "search-failed" (ZM pt q ws l)
    exact Ak (n:=n) hT xo kp hl.sc ((gE (hcl pt q ws q.zv))▸ha) hk1 hk2
   |some s=>
    intro ha
    show Z5 G (n+9) _ _ (ZM pt q ws l) (.d .none) (ZM (Wj k ws.length q.bz q.zv s) q ws (Tj s ws.length))
    have ep:Wj k ws.length q.bz q.zv s=min (max (s+ws.length) q.bz) q.zv:=by unfold Wj;rw[hk1]
    rw[ep]
    have c:=vE (n:=n) (us:=us) (pt:=pt) (q:=q) (ws:=ws) (l:=l) hT hl.sc ha hk1 hk2
    exact Z5.UU (L:=l) (H0:=fun X=>Ym pt q ws++ed (V7 X)) (X_:=fun X=>Ym (min (max (s+ws.length) q.bz) q.zv) q ws++ed (V7 (Tj s ws.length))) (Hb:=fun X=>ZM pt q ws X) (VM:=fun X=>ZM (min (max (s+ws.length) q.bz) q.zv) q ws (Tj s ws.length)) c hl.Yb [0,1,2,3,4,5,19,6,8,9,10,11,12,13,14,15,16,17,18] 20 (by rfl') (fun X=>by rfl') (fun X=>by rfl') (fun X=>by rfl')
  ·have hk1:decide (0<k)=false:=decide_eq_false uJ
   have ek:(-(((-k).toNat:Nat):Int))=k:=by omega
   have ha:=Cu (n:=n) (pt:=pt) (q:=q) (k:=(-k).toNat) (ws:=ws) hT hh hu hw hws hz.1 hp (by omega)
   rw[ek] at ha
   rw[hk1]
   dsimp only
   revert ha
   cases ZZ (Rz (ZV us q.bz q.zv) q.bz ws) (fun s=>s) (-k).toNat pt none with
   |none=>
    intro ha
    show Rb G (n+9) _ _ (ZM pt q ws l) 38 "search-failed" (ZM pt q ws l)
    exact Aj (n:=n) hT xo kp hl.sc ((gE (hcl pt q ws q.bz))▸ha) hk1 hk2
   |some s=>
    intro ha
    show Z5 G (n+9) _ _ (ZM pt q ws l) (.d .none) (ZM (Wj k ws.length q.bz q.zv s) q ws (Tj s ws.length))
    have ep:Wj k ws.length q.bz q.zv s=min (max s q.bz) q.zv:=by unfold Wj;rw[hk1]
    rw[ep]
    have c:=vD (n:=n) (us:=us) (pt:=pt) (q:=q) (ws:=ws) (l:=l) hT hl.sc ha hk1 hk2
    exact Z5.UU (L:=l) (H0:=fun X=>Ym pt q ws++ed (V7 X)) (X_:=fun X=>Ym (min (max s q.bz) q.zv) q ws++ed (V7 (Tj s ws.length))) (Hb:=fun X=>ZM pt q ws X) (VM:=fun X=>ZM (min (max s q.bz) q.zv) q ws (Tj s ws.length)) c hl.Yb [0,1,2,3,4,5,19,6,8,9,10,11,12,13,14,15,16,17,18] 20 (by rfl') (fun X=>by rfl') (fun X=>by rfl') (fun X=>by rfl')
theorem uI {n:Nat}{N:Addr}{k:Int}{us ws:List Int}{pt:Int}{q:BB}{l:List AV}(hT:ZY G T0) (xo:SE G 38 N 35) (kp:gw G.K (.ref 38)=true) (hl:DQ l) (a:GF us pt q.bz q.zv q.gs q.cs k) (hw:∀w∈ws,Qq w) (hl3:1<=ws.length/\ws.length<=3):
  CO G (n+11) (.Z8 (.ref 832)) [.loc 8,.loc 19,.d (.int k)] (ZM pt q ws l) (NY k (sM (ZV us q.bz q.zv) q.bz q.zv (ws.map Yg) k pt)) (fun s=>ZM (Wj k ws.length q.bz q.zv s) q ws (Tj s ws.length)):=by
 obtain ⟨hh,hu,hz,hp,hk⟩:=a
 have hws:ws.length<=100:=by have:=hl3.2;omega
 have hrl:(ws.map Yg).length=ws.length:=gn ..
 have hrs:1<=(ws.map Yg).length/\(ws.map Yg).length<=3:=by rw[hrl];exact hl3
 by_cases k0:k=0
 ·subst k0
  show Z5 G (n+11) _ _ (ZM pt q ws l) (.d .none) (ZM pt q ws l)
  have ha:=GP (n:=n+1) (pt:=pt) (q:=q) (k:=0) hT hh hu hrs hz.1 hp (by decide)
  have c:=vp (n:=n) (pt:=pt) (q:=q) (ws:=ws) (l:=l) hT hl.sc hl3 hw ((gE (YH pt q q.bz (Z7 (ws.map Yg))))▸ha)
  exact Z5.UU (L:=l) (H0:=fun X=>Ym pt q ws++Nx (V7 X)) (X_:=fun X=>Ym pt q ws++Nx (V7 X)) (Hb:=fun X=>ZM pt q ws X) (VM:=fun X=>ZM pt q ws X) c hl.Yb [0,1,2,3,4,5,19,7,8,9,10,11,12,13,14,15,16,17,18] 20 (by rfl') (fun X=>by rfl') (fun X=>by rfl') (fun X=>by rfl')
 ·have hk2:(!decide (k=0))=true:=by rw[decide_eq_false k0];rfl
  unfold NY sM
  rw[decide_eq_false k0]
  by_cases uJ:0<k
  ·have hk1:decide (0<k)=true:=decide_eq_true uJ
   have ek:((k.toNat:Nat):Int)=k:=by omega
   have ha:=Au (n:=n+1) (pt:=pt) (q:=q) (k:=k.toNat) hT hh hu hrs hz.2.1 hp hz.2.2 (by omega)
   rw[ek] at ha
   rw[hk1]
   dsimp only
   revert ha
   cases ZZ (VF (ZV us q.bz q.zv) q.zv (ws.map Yg)) (fun s=>s+(ws.map Yg).length) k.toNat pt none with
   |none=>
    intro ha
    show Rb G (n+11) _ _ (ZM pt q ws l) 38 "search-failed" (ZM pt q ws l)
    exact Ai (n:=n) hT xo kp hl.sc hl3 hw ((gE (YH pt q q.zv (Z7 (ws.map Yg))))▸ha) hk1 hk2
   |some s=>
    intro ha
    show Z5 G (n+11) _ _ (ZM pt q ws l) (.d .none) (ZM (Wj k ws.length q.bz q.zv s) q ws (Tj s ws.length))
    have ep:Wj k ws.length q.bz q.zv s=min (max (s+ws.length) q.bz) q.zv:=by unfold Wj;rw[hk1]
    rw[ep]
    have c:=vt (n:=n) (m:=ws.length) (pt:=pt) (q:=q) (ws:=ws) (l:=l) hT hl.sc hl3 hw (hrl▸ha) hk1 hk2
    exact Z5.UU (L:=l) (H0:=fun X=>Ym pt q ws++Nx (V7 X)) (X_:=fun X=>Ym (min (max (s+ws.length) q.bz) q.zv) q ws++Nx (V7 (Tj s ws.length))) (Hb:=fun X=>ZM pt q ws X) (VM:=fun X=>ZM (min (max (s+ws.length) q.bz) q.zv) q ws (Tj s ws.length)) c hl.Yb [0,1,2,3,4,5,19,7,8,9,10,11,12,13,14,15,16,17,18] 20 (by rfl') (fun X=>by rfl') (fun X=>by rfl') (fun X=>by rfl')
  ·have hk1:decide (0<k)=false:=decide_eq_false uJ
   have ek:(-(((-k).toNat:Nat):Int))=k:=by omega
   have ha:=GP (n:=n+1) (pt:=pt) (q:=q) (k:=(-k).toNat) hT hh hu hrs hz.1 hp (by omega)
   rw[ek] at ha
   rw[hk1]
   dsimp only
   revert ha
   cases ZZ (VE (ZV us q.bz q.zv) q.bz (ws.map Yg)) (fun s=>s) (-k).toNat pt none with
   |none=>
    intro ha
    show Rb G (n+11) _ _ (ZM pt q ws l) 38 "search-failed" (ZM pt q ws l)
    exact Ah (n:=n) hT xo kp hl.sc hl3 hw ((gE (YH pt q q.bz (Z7 (ws.map Yg))))▸ha) hk1 hk2
   |some s=>
    intro ha
    show Z5 G (n+11) _ _ (ZM pt q ws l) (.d .none) (ZM (Wj k ws.length q.bz q.zv s) q ws (Tj s ws.length))
    have ep:Wj k ws.length q.bz q.zv s=min (max s q.bz) q.zv:=by unfold Wj;rw[hk1]
    rw[ep]
    have c:=vq (n:=n) (m:=ws.length) (pt:=pt) (q:=q) (ws:=ws) (l:=l) hT hl.sc hl3 hw (hrl▸ha) hk1 hk2
    exact Z5.UU (L:=l) (H0:=fun X=>Ym pt q ws++Nx (V7 X)) (X_:=fun X=>Ym (min (max s q.bz) q.zv) q ws++Nx (V7 (Tj s ws.length))) (Hb:=fun X=>ZM pt q ws X) (VM:=fun X=>ZM (min (max s q.bz) q.zv) q ws (Tj s ws.length)) c hl.Yb [0,1,2,3,4,5,19,7,8,9,10,11,12,13,14,15,16,17,18] 20 (by rfl') (fun X=>by rfl') (fun X=>by rfl') (fun X=>by rfl')
abbrev sW (wn:List Nat):Str:=⟨⟨wn⟩⟩
abbrev cW (wn:List Nat):List Int:=wn.map cF
theorem Ag {n F:Nat}{Φ:Fm}{es:List Expr}{σ:St}{K:List AV->St->Prop}{X:XK}(hT:ZY G T0) (as:List AV) (ZH:St) (P:Prop) (h:P=(ev G T0 F).es n Φ es σ (fun x s=>x=as/\s=ZH)) (p:P) (k:K as ZH):SR G n Φ es σ K X:=by
 intro pos
 refine J.imp ((ZA hT F).es (@cast _ _ h p) pos) ?_ fun _ _ f=>f.elim
 rintro x s ⟨rfl,rfl⟩
 exact k
theorem Af {n:Nat}{wn:List Nat}(hT:ZY G T0) (hl:1<=wn.length/\wn.length<=3):Z5 G (n+9) (.Z8 (.ref 811)) [.d (.str (sW wn))] [] (.loc 0) [.Z_ (cW wn)]:=by
 have z:Z5 G (n+9) (.Z8 (.ref 811)) [.d (.str (sW wn))] [] (.loc 1) [.gone,.Z_ (cW wn)]:=by
  match wn,hl with
  | [a],_=>exact VG (F:=40) hT (by rfl') fun loc=>by rfl'
  | [a,b],_=>exact VG (F:=40) hT (by rfl') fun loc=>by rfl'
  | [a,b,c],_=>exact VG (F:=40) hT (by rfl') fun loc=>by rfl'
  | [],h=>exact absurd h.1 (by decide)
  |a::b::c::d::l,h=>exact absurd h.2 (by simp only[fR];omega)
 exact z.anew [1] (by rfl') (by rfl') (by rfl')
theorem DP {n:Nat}{ws:List Int}(hT:ZY G T0) (hl:ws.length<=100):Z5 G (n+9) (.Z8 (.ref 811)) [.loc 0] [.Z_ ws] (.loc 1) [.Z_ ws,.Z_ ws]:=
 YY (F:=40) hT (by rfl') [.k 697] (fun loc=>small ws.length=true/\Post loc (.loc 1) [.Z_ ws,.Z_ ws] (.loc 1) ⟨loc,[.Z_ ws,.Z_ ws],[]⟩) (fun loc=>by rfl') fun loc=>⟨YX hl,Z1 (by rfl')⟩
abbrev uH (wn:List Nat) (k:Int):AO:= .list [.d (.str (sW wn)),.d (.int k)]
def U_ (ib:Bool) (k:Int):Int:=match ib with|true=>0 - k|false=>k
abbrev cX (ie ib:Bool):Addr:=cond ie (cond ib 860 853) (cond ib 846 839)
abbrev iX (ie:Bool):Addr:=cond ie 832 825
abbrev nX (ie ib:Bool):Nat:=cond ie (cond ib 728 726) (cond ib 724 722)
abbrev fX (ie ib:Bool):Fn:=Zc (cond ie (cond ib 89 88) (cond ib 87 86)) none ["editor","values"] []
abbrev bX (ie ib:Bool):Bool:= !ie && ib
abbrev gX (b:Bool) (wn:List Nat) (k:Int):List AO:=cond b [.gone,.Z_ (cW wn),.list [.loc 20,.d (.int k)]] [uH wn k]
abbrev Uw (b:Bool) (pt:Int) (q:BB) (wn:List Nat) (k:Int) (l:List AV):List AO:=Yt pt q l++gX b wn k
abbrev hX2 (b:Bool) (pt:Int) (q:BB) (wn:List Nat) (k:Int) (l:List AV):List AO:=Uw b pt q wn k l++ [.Z_ (cW wn)]
abbrev aX (b:Bool) (wn:List Nat):AV:=cond b (.loc 20) (.d (.str (sW wn)))
abbrev vX (b:Bool) (k:Int):List AV:= [.loc 8,.loc (cond b 22 20),.d (.int k)]
theorem uG (ie ib:Bool):(fX ie ib).body= [Tn (VZ (fX ie ib) 0)]:=by cases ie<;>cases ib<;>rfl'
abbrev eX (i:Nat):List Nat:= [0,1,2,3,4,5,6,7,8,9,10,11,12,13,14,15,16,17,18,i]
section
variable {n:Nat}{N:Addr}{ie ib b:Bool}{k j m pt pt':Int}{wn:List Nat}{q:BB}{l l':List AV}{o:Out}{pS:Int->Int}
theorem pC (hT:ZY G T0) (hl:DQ l) (Pe:1<=wn.length/\wn.length<=3):Z5 G (n+9) (.Z8 (.ref 811)) [aX b wn] (Uw b pt q wn k l) (.loc (cond b 22 20)) (hX2 b pt q wn k l):=by
 have hws:(cW wn).length<=100:=by rw[gn];omega
 cases b with
 |true=>exact Z5.UU (L:=l) (H0:=fun X=> [.Z_ (cW wn)]) (X_:=fun X=> [.Z_ (cW wn),.Z_ (cW wn)]) (Hb:=fun X=>Uw true pt q wn k X) (VM:=fun X=>hX2 true pt q wn k X) (DP hT hws) hl.Yb [20] 22 (by rfl') (fun X=>by rfl') (fun X=>by rfl') (fun X=>by rfl')
 |false=>exact Z5.UU (L:=l) (H0:=fun X=> []) (X_:=fun X=> [.Z_ (cW wn)]) (Hb:=fun X=>Uw false pt q wn k X) (VM:=fun X=>hX2 false pt q wn k X) (Af hT Pe) hl.Yb [] 20 (by rfl') (fun X=>by rfl') (fun X=>by rfl') (fun X=>by rfl')
theorem uF (hl:DQ l) (c:CO G n (.Z8 (.ref (iX ie))) [.loc 8,.loc 19,.d (.int k)] (ZM pt q (cW wn) l) o fun s=>ZM (pS s) q (cW wn) (Tj s m)):CO G n (.Z8 (.ref (iX ie))) (vX b k) (hX2 b pt q wn j l) o fun s=>hX2 b (pS s) q wn j (Tj s m):=by
 revert c
 cases o with
 |quiet=>cases b with
  |true=>exact fun c=>Z5.UU (L:=l) (H0:=fun X=>ZM pt q (cW wn) X) (X_:=fun X=>ZM pt q (cW wn) X) (Hb:=fun X=>hX2 true pt q wn j X) (VM:=fun X=>hX2 true pt q wn j X) c hl.Yb (eX 22) 23 (by rfl') (fun X=>by rfl') (fun X=>by rfl') (fun X=>by rfl')
  |false=>exact fun c=>Z5.UU (L:=l) (H0:=fun X=>ZM pt q (cW wn) X) (X_:=fun X=>ZM pt q (cW wn) X) (Hb:=fun X=>hX2 false pt q wn j X) (VM:=fun X=>hX2 false pt q wn j X) c hl.Yb (eX 20) 21 (by rfl') (fun X=>by rfl') (fun X=>by rfl') (fun X=>by rfl')
 |hit s=>cases b with
  |true=>exact fun c=>Z5.UU (L:=l) (H0:=fun X=>ZM pt q (cW wn) X) (X_:=fun X=>ZM (pS s) q (cW wn) (Tj s m)) (Hb:=fun X=>hX2 true pt q wn j X) (VM:=fun X=>hX2 true (pS s) q wn j (Tj s m)) c hl.Yb (eX 22) 23 (by rfl') (fun X=>by rfl') (fun X=>by rfl') (fun X=>by rfl')
  |false=>exact fun c=>Z5.UU (L:=l) (H0:=fun X=>ZM pt q (cW wn) X) (X_:=fun X=>ZM (pS s) q (cW wn) (Tj s m)) (Hb:=fun X=>hX2 false pt q wn j X) (VM:=fun X=>hX2 false (pS s) q wn j (Tj s m)) c hl.Yb (eX 20) 21 (by rfl') (fun X=>by rfl') (fun X=>by rfl') (fun X=>by rfl')
 |miss=>cases b with
  |true=>exact fun c=>Rb.UU (L:=l) (H0:=fun X=>ZM pt q (cW wn) X) (Hb:=fun X=>hX2 true pt q wn j X) c hl.Yb (eX 22) 23 (by rfl') (fun X=>by rfl') (fun X=>by rfl') (fun X=>by rfl')
  |false=>exact fun c=>Rb.UU (L:=l) (H0:=fun X=>ZM pt q (cW wn) X) (Hb:=fun X=>hX2 false pt q wn j X) c hl.Yb (eX 20) 21 (by rfl') (fun X=>by rfl') (fun X=>by rfl') (fun X=>by rfl')
abbrev sL (G:Gm) (n:Nat) (b:Bool) (pt:Int) (q:BB) (wn:List Nat) (k:Int) (l:List AV):Prop:=Z5 G (n+9) (.Z8 (.ref 811)) [aX b wn] (Uw b pt q wn k l) (.loc (cond b 22 20)) (hX2 b pt q wn k l)
abbrev mG (G:Gm) (n:Nat) (ie ib:Bool) (pt:Int) (q:BB) (wn:List Nat) (k:Int) (l:List AV) (pt':Int) (l':List AV):Prop:=Z5 G (n+9) (.Z8 (.ref (iX ie))) (vX (bX ie ib) (U_ ib k)) (hX2 (bX ie ib) pt q wn k l) (.d .none) (hX2 (bX ie ib) pt' q wn k l')
abbrev oX (ie ib:Bool):List AV:= [.loc 8,.loc (cond (bX ie ib) 21 19)]
theorem ja {loc:List (Str×AV)}:(sL G n (bX ie ib) pt q wn k l/\mG G n ie ib pt q wn k l pt' l'/\Post loc (.d .none) (Uw (bX ie ib) pt' q wn k l') (.d .none) ⟨loc,Uw (bX ie ib) pt' q wn k l'++ [.Z_ (cW wn)],[]⟩)=(ev G T0 40).c (n+9+1) 0 (.Z8 (.ref (cX ie ib))) (oX ie ib) ⟨loc,Uw (bX ie ib) pt q wn k l,[.con (nX ie ib) (.loc (cond (bX ie ib) 22 20)) (hX2 (bX ie ib) pt q wn k l),.con (nX ie ib) (.d .none) (hX2 (bX ie ib) pt' q wn k l')]⟩ (Post loc (.d .none) (Uw (bX ie ib) pt' q wn k l')):=by
 cases ie<;>cases ib<;>rfl'
theorem mF (hl:Zm l):(true && Y9 (cond (bX ie ib) 22 20) (Uw (bX ie ib) pt q wn k l))=true:=by
 cases ie<;>cases ib<;>exact J8 hl (H:=fun X=>Uw _ pt q wn k X) fun X=>by rfl'
theorem mE (hT:ZY G T0) (td:sL G n (bX ie ib) pt q wn k l) (sc:Zm l') (d:mG G n ie ib pt q wn k l pt' l'):Z5 G (n+9+1) (.Z8 (.ref (cX ie ib))) (oX ie ib) (Uw (bX ie ib) pt q wn k l) (.d .none) (Uw (bX ie ib) pt' q wn k l'):=
 YY hT (by cases ie<;>cases ib<;>exact mF (ie:=_) (ib:=_) sc) _ _ (fun loc=>ja) fun loc=>⟨td,d,XG rfl⟩
abbrev sX (ie ib:Bool) (H:List AO) (os:List Gh):St:=⟨[("editor",.loc 8),("values",.loc (cond (bX ie ib) 21 19))],H,os⟩
theorem uE (hT:ZY G T0) (td:sL G n (bX ie ib) pt q wn k l) (hl:Zm l) (kt:gw G.K (.ref (iX ie))=true) (d:Rb G (n+9) (.Z8 (.ref (iX ie))) (vX (bX ie ib) (U_ ib k)) (hX2 (bX ie ib) pt q wn k l) 38 "search-failed" (hX2 (bX ie ib) pt q wn k l)):Rb G (n+9+1) (.Z8 (.ref (cX ie ib))) (oX ie ib) (Uw (bX ie ib) pt q wn k l) 38 "search-failed" (Uw (bX ie ib) pt q wn k l):=by
 let S:=sX ie ib (hX2 (bX ie ib) pt q wn k l) []
 refine WD (fn:=fX ie ib) (hT.fn (cX ie ib) (fX ie ib) (by clear td kt d;cases ie<;>cases ib<;>rfl')).1 rfl rfl (by clear td kt d;cases ie<;>cases ib<;>rfl') (by clear td kt d;cases ie<;>cases ib<;>rfl') (by clear td kt d;cases ie<;>cases ib<;>exact mF (ie:=_) (ib:=_) hl) ⟨[.con (nX ie ib) (.loc (cond (bX ie ib) 22 20)) (hX2 (bX ie ib) pt q wn k l)],?_⟩
 rw[uG]
 refine YJ ?_
 refine Vq (Hx:=Uw (bX ie ib) pt q wn k l) (g:= [.Z_ (cW wn)]) (by clear td kt d;cases ie<;>cases ib<;>rfl') (by clear td kt d;cases ie<;>cases ib<;>rfl') (by clear td kt d;cases ie<;>cases ib<;>exact fun _=>by rfl') ?_
 refine S7 (F:=10) hT (.Z8 (.ref (iX ie))) (sX ie ib (Uw (bX ie ib) pt q wn k l) [.con (nX ie ib) (.loc (cond (bX ie ib) 22 20)) (hX2 (bX ie ib) pt q wn k l)]) (by clear td kt d;cases ie<;>cases ib<;>rfl') ⟨YC.Z8 kt,?_⟩
 exact Ag (F:=20) hT (vX (bX ie ib) (U_ ib k)) S (sL G n (bX ie ib) pt q wn k l/\vX (bX ie ib) (U_ ib k)=vX (bX ie ib) (U_ ib k)/\S=S) (by clear td kt d;cases ie<;>cases ib<;>rfl') ⟨td,rfl,rfl⟩ ⟨_,rfl,d⟩
theorem uD (hT:ZY G T0) (hl:DQ l) (Pe:1<=wn.length/\wn.length<=3) (c:CO G (n+9) (.Z8 (.ref (iX ie))) [.loc 8,.loc 19,.d (.int (U_ ib k))] (ZM pt q (cW wn) l) o fun s=>ZM (pS s) q (cW wn) (Tj s m)):
  CO G (n+9+1) (.Z8 (.ref (cX ie ib))) (oX ie ib) (Uw (bX ie ib) pt q wn k l) o fun s=>Uw (bX ie ib) (pS s) q wn k (Tj s m):=by
 have td:=pC (G:=G) (n:=n) (b:=bX ie ib) (pt:=pt) (q:=q) (k:=k) hT hl Pe
 have kt:gw G.K (.ref (iX ie))=true:=by
  cases ie with
  |true=>exact(hT.fn 832 FU (by rfl')).2
  |false=>exact(hT.fn 825 FW (by rfl')).2
 have d:=uF (b:=bX ie ib) (j:=k) hl c
 clear c
 revert d
 cases o with
 |quiet=>exact fun d=>mE hT td hl.sc d
 |hit s=>exact fun d=>mE hT td (fun _=>rfl) d
 |miss=>exact fun d=>uE hT td hl.sc kt d
end
end
section
open PySem.Sem (wp)
inductive pB (z TI TO i1 i2:Addr) (NX NW:Nat->Heap->Prop) (i:Nat) (h:Heap):Prop
 |mk (zp:fE h z TI TO .none) (ti:fS h TI (.ref i1) (.ref i2)) (a b:h_) (to:fS h TO a b) (s1:NX i h) (s2:NW i h)
inductive uC (z TI TO i1 i2:Addr) (NX NW:Nat->Heap->Prop) (i:Nat) (T:Addr) (h:Heap):Prop
 |mk (zp:fE h z TI TO (rawInt T)) (ti:fS h TI (.ref i1) (.ref i2)) (a b:h_) (to:fS h TO a b) (s1:NX (i+1) h) (s2:NW (i+1) h)
inductive pA (z TI TO i1 i2:Addr) (NX NW:Nat->Heap->Prop) (i:Nat) (T:Addr) (h:Heap):Prop
 |mk (st:uC z TI TO i1 i2 NX NW i T h) (t1:T≠z) (t2:T≠TO) (t3:T≠i1) (t4:T≠i2)
theorem pB.zp {z TI TO i1 i2:Addr}{NX NW:Nat->Heap->Prop}{i:Nat}{h:Heap}(x:pB z TI TO i1 i2 NX NW i h):fE h z TI TO .none:=let ⟨a,_,_,_,_,_,_⟩:=x;a
theorem in1 {p:Nat->Prop}{a:Nat}(ha:p a) (x:Nat) (h:x∈ [a]):p x:=fK.mp h▸ha
theorem in4 {p:Nat->Prop}{a b c d:Nat}(ha:p a) (hb:p b) (hc:p c) (hd:p d) (x:Nat) (h:x∈ [a,b,c,d]):p x:=by
 rcases gy.mp h with e|h
 ·exact e▸ha
 rcases gy.mp h with e|h
 ·exact e▸hb
 rcases gy.mp h with e|h
 ·exact e▸hc
 ·exact in1 hd x h
theorem pq {p:Nat->Prop}{a b c d e:Nat}(ha:p a) (hb:p b) (hc:p c) (hd:p d) (he:p e) (x:Nat) (h:x∈ [a,b,c,d,e]):p x:=by
 rcases gy.mp h with q|h
 ·exact q▸ha
 ·exact in4 hb hc hd he x h
inductive pn (x a b c d:Nat):Prop
 |mk (na:x≠a) (nb:x≠b) (nc:x≠c) (nd:x≠d)
theorem mD {x a b c d:Nat}(h:x∉ [a,b,c,d]):pn x a b c d:=⟨fun e=>h (e▸ .head _),fun e=>h (e▸ .tail _ (.head _)),fun e=>h (e▸ .tail _ (.tail _ (.head _))),fun e=>h (e▸ .tail _ (.tail _ (.tail _ (.head _))))⟩
theorem pn.elim {x a b c d:Nat}{P:Prop}(h:pn x a b c d) (k:x≠a->x≠b->x≠c->x≠d->P):P:=let ⟨p,q,r,s⟩:=h;k p q r s
structure Rv (z TI TO i1 i2:Addr):Prop where
 TIz:TI≠z
 TOz:TO≠z
 i1z:i1≠z
 i2z:i2≠z
 TITO:TI≠TO
 TIi1:TI≠i1
 TIi2:TI≠i2
 TOi1:TO≠i1
 TOi2:TO≠i2
 i12:i1≠i2
section
variable {prog:gP}{w:g8}{A:gY}{E:h_->g7->Prop}{s:g7}
section
variable {z TI TO i1 i2:Addr}{k n1 n2:Nat}{P1 P2:Nat->h_->Prop}{NX NW:Nat->Heap->Prop}{a b:h_}
theorem J2 {Q:h_->g7->Prop}(O:Rv z TI TO i1 i2) (D1:Draws prog w A i1 [i1] n1 P1 NX) (D2:Draws prog w A i2 [i2] n2 P2 NW)
  (hz:fE s.heap z TI TO .none) (hTI:fS s.heap TI (.ref i1) (.ref i2)) (hTO:fS s.heap TO a b) (h1:NX k s.heap) (h2:NW k s.heap) (hk1:k<n1) (hk2:k<n2)
  (hQ:∀x y h' tk,P1 k x->P2 k y->fE h' z TI TO (rawInt s.heap.objs.size)->fS h' TO x y->NX (k+1) h'->NW (k+1) h'->fS h' s.heap.objs.size x y->
   (∀c o,c≠z->c≠TO->c≠i1->c≠i2->s.heap.get? c=some o->h'.get? c=some o)->Q (.ref s.heap.objs.size) {s with heap:=h',toks:=tk}):
  gW (gO prog w) A (dY.«zip.__next__» ⟨[.ref z],[]⟩) (fun fin s'=>∃v,fin= .done (.ret v)/\Q v s') E s:=by
 show gW _ _ (field (.ref z) 2>>=_) _ _ _
 refine g_ (fQ hz rfl (x:= .bool false) rfl ?_)
 show gW _ _ (field (.ref z) 3>>=_) _ _ _
 refine g_ (fQ hz rfl (x:= .ref TI) rfl ?_)
 refine g_ (c5 hTI rfl ?_)
 show gW _ _ (aP (.ref z)>>=_) _ _ _
 refine g_ ?_
 unfold aP
 refine g_ (fQ hz rfl (x:= .none) rfl (gU ?_))
 simp only[if_true]
 refine g_ (wpAny_rule ?_)
 refine g_ (fQ hz rfl (x:= .ref TO) rfl ?_)
 refine g_ (ck hz (by simp) fun ZU Ti Xy=> ?_)
 replace Ti:fE ZU z TI TO .ellipsis:=Ti
 refine g_ ?_
 simp only[List.zipIdx_cons,List.zipIdx_nil,aZ,List.forIn_nil]
 have e1:∀{h h':Heap}{c:Addr}{n:Nat}{P:Nat->h_->Prop}{St:Nat->Heap->Prop}{i:Addr},Draws prog w A i [i] n P St->dw c h h'->i≠c->St k h->St k h':=fun D hs hne st=>D.frame _ _ _ st fun b' hb o e=>hs.extBut _ _ (by simp at hb;subst hb;exact hne) e
 have sJ:∀{h h':Heap}{c:Addr}{n:Nat}{P:Nat->h_->Prop}{St:Nat->Heap->Prop}{i:Addr},Draws prog w A i [i] n P St->dw c h h'->i≠c->St (k+1) h->St (k+1) h':=fun D hs hne st=>D.frame _ _ _ st fun b' hb o e=>hs.extBut _ _ (by simp at hb;subst hb;exact hne) e
 refine g_ (g_ (wpAny_onRaise ?_))
 show gW _ _ (aO (.ref i1)>>=_) _ _ _
 refine g_ (D1.item k {s with heap:=ZU} _ _ hk1 (e1 D1 Xy O.i1z h1) fun x ZO VV hx Cp WB=>gU ?_)
 have Ru:fS ZO TO a b:=WB.extBut _ _ O.TOi1 (Xy.extBut _ _ O.TOz hTO)
 refine g_ (c5 Ru rfl ?_)
 refine g_ (wpAny_updateSeq_pair Ru fun X8 Pd V_=> ?_)
 replace Pd:fS X8 TO x b:=Pd
 refine g_ (wpAny_letGo (gU ?_))
 refine g_ (g_ (wpAny_onRaise ?_))
 show gW _ _ (aO (.ref i2)>>=_) _ _ _
 refine g_ (D2.item k {s with heap:=X8,toks:=VV} _ _ hk2 (e1 D2 V_ O.TOi2.symm (e1 D2 WB O.i12.symm (e1 D2 Xy O.i2z h2))) fun y Vn Iz hy uB Th=>gU ?_)
 have GD:fS Vn TO x b:=Th.extBut _ _ O.TOi2 Pd
 refine g_ (c5 GD rfl ?_)
 refine g_ (wpAny_updateSeq_pair GD fun XE Rt Tg=> ?_)
 replace Rt:fS XE TO x y:=Rt
 refine g_ (wpAny_letGo (gU (gU ?_)))
 refine g_ (c5 Rt rfl ?_)
 refine g_ (wpAny_newTuple ?_)
 have hsz:XE.objs.size=s.heap.objs.size:=by rw[Tg.1,Th.1];show X8.objs.size=_;rw[V_.1,WB.1];exact Xy.1
 have Co:fE XE z TI TO .ellipsis:=Tg.extBut _ _ O.TOz.symm (Th.extBut _ _ O.i2z.symm (V_.extBut _ _ O.TOz.symm (WB.extBut _ _ O.i1z.symm Ti)))
 have uA:∀c o,c≠z->c≠TO->c≠i1->c≠i2->s.heap.get? c=some o->XE.get? c=some o:=fun c o c1 c2 c3 c4 e=>
  Tg.extBut _ _ c2 (Th.extBut _ _ c4 (V_.extBut _ _ c2 (WB.extBut _ _ c3 (Xy.extBut _ _ c1 e))))
 have uz:NX (k+1) XE:=sJ D1 Tg O.TOi1.symm (sJ D1 Th O.i12 (sJ D1 V_ O.TOi1.symm Cp))
 have uy:NW (k+1) XE:=sJ D2 Tg O.TOi2.symm uB
 have ux:z<XE.objs.size:=gJ Co
 have mz:TO<XE.objs.size:=gJ Rt
 show gW _ _ (dY.SmallTypes.ownedTupleHandOut (.ref z) (.ref XE.objs.size)>>=_) _ _ _
 refine g_ ?_
 unfold dY.SmallTypes.ownedTupleHandOut
 have uw:fE (XE.push {cls:= .type "tuple",data:= .seq #[x,y]}) z TI TO .ellipsis:=gD _ Co
 refine g_ (ck uw (by simp) fun xu GC Cn=> ?_)
 replace GC:fE xu z TI TO (rawInt XE.objs.size):=GC
 refine ck GC (by simp) fun MZ Lq Cm=> ?_
 replace Lq:fE MZ z TI TO (rawInt XE.objs.size):=Lq
 have up:∀c o,c≠z->XE.get? c=some o->MZ.get? c=some o:=fun c o c1 e=>Cm.extBut _ _ c1 (Cn.extBut _ _ c1 (gD _ e))
 have Ck:fS MZ XE.objs.size x y:=Cm.extBut _ _ (bU ux) (Cn.extBut _ _ (bU ux) (fy _ rfl))
 have mw:∀{n:Nat}{P:Nat->h_->Prop}{St:Nat->Heap->Prop}{i:Addr},Draws prog w A i [i] n P St->i≠z->St (k+1) XE->St (k+1) MZ:=fun D hne st=>D.frame _ _ _ st fun b' hb o e=>up _ o (by simp at hb;subst hb;exact hne) e
 rw[hsz] at Lq Ck
 refine gU ⟨_,rfl,?_⟩
 show Q (.ref XE.objs.size) _
 rw[hsz]
 exact hQ x y MZ Iz hx hy Lq (up _ _ O.TOz Rt) (mw D1 O.i1z uz) (mw D2 O.i2z uy) Ck fun c o c1 c2 c3 c4 e=>up c o c1 (uA c o c1 c2 c3 c4 e)
theorem GB {Q:Fin->g7->Prop}(O:Rv z TI TO i1 i2) (D1:Draws prog w A i1 [i1] n1 P1 NX) (D2:Draws prog w A i2 [i2] n2 P2 NW)
  (hz:fE s.heap z TI TO .none) (hTI:fS s.heap TI (.ref i1) (.ref i2)) (hTO:fS s.heap TO a b) (h1:NX k s.heap) (h2:NW k s.heap) (hend:k=n1\/(k<n1/\k=n2))
  (hE:∀h' e tk,(∀c o,c≠z->c≠TO->c≠i1->c≠i2->s.heap.get? c=some o->h'.get? c=some o)->(∃o,h'.get? e=some o/\o.cls= .type "StopIteration")->E (.ref e) {s with heap:=h',toks:=tk}):
  gW (gO prog w) A (dY.«zip.__next__» ⟨[.ref z],[]⟩) Q E s:=by
 show gW _ _ (field (.ref z) 2>>=_) _ _ _
 refine g_ (fQ hz rfl (x:= .bool false) rfl ?_)
 show gW _ _ (field (.ref z) 3>>=_) _ _ _
 refine g_ (fQ hz rfl (x:= .ref TI) rfl ?_)
 refine g_ (c5 hTI rfl ?_)
 show gW _ _ (aP (.ref z)>>=_) _ _ _
 refine g_ ?_
 unfold aP
 refine g_ (fQ hz rfl (x:= .none) rfl (gU ?_))
 simp only[if_true]
 refine g_ (wpAny_rule ?_)
 refine g_ (fQ hz rfl (x:= .ref TO) rfl ?_)
 refine g_ (ck hz (by simp) fun ZU Ti Xy=> ?_)
 replace Ti:fE ZU z TI TO .ellipsis:=Ti
 refine g_ ?_
 simp only[List.zipIdx_cons,List.zipIdx_nil,aZ,List.forIn_nil]
 have e1:∀{h h':Heap}{c:Addr}{n:Nat}{P:Nat->h_->Prop}{St:Nat->Heap->Prop}{i:Addr},Draws prog w A i [i] n P St->dw c h h'->i≠c->St k h->St k h':=fun D hs hne st=>D.frame _ _ _ st fun b' hb o e=>hs.extBut _ _ (by simp at hb;subst hb;exact hne) e
 refine g_ (g_ (wpAny_onRaise ?_))
 show gW _ _ (aO (.ref i1)>>=_) _ _ _
 rcases hend with rfl|⟨hk1,rfl⟩
 ·refine g_ (D1.done {s with heap:=ZU} _ _ (e1 D1 Xy O.i1z h1) fun ZO e WB he=> ?_)
  obtain ⟨oe,EM,hce⟩:=he
  have Cj:fE ZO z TI TO .ellipsis:=WB _ _ O.i1z.symm Ti
  have ph:e≠z:=fun x=>by subst x;rw[Cj] at EM;cases EM;simp at hce
  refine ck Cj (by simp) fun X8 _ V_=>hE X8 e s.toks (fun c o c1 _ c3 _ x=>V_.extBut _ _ c1 (WB _ _ c3 (Xy.extBut _ _ c1 x))) ⟨oe,V_.extBut _ _ ph EM,hce⟩
 ·refine g_ (D1.item k {s with heap:=ZU} _ _ hk1 (e1 D1 Xy O.i1z h1) fun x ZO VV hx Cp WB=>gU ?_)
  have Ru:fS ZO TO a b:=WB.extBut _ _ O.TOi1 (Xy.extBut _ _ O.TOz hTO)
  refine g_ (c5 Ru rfl ?_)
  refine g_ (wpAny_updateSeq_pair Ru fun X8 Pd V_=> ?_)
  refine g_ (wpAny_letGo (gU ?_))
  refine g_ (g_ (wpAny_onRaise ?_))
  show gW _ _ (aO (.ref i2)>>=_) _ _ _
  refine g_ (D2.done {s with heap:=X8,toks:=VV} _ _ (e1 D2 V_ O.TOi2.symm (e1 D2 WB O.i12.symm (e1 D2 Xy O.i2z h2))) fun Vn e Th he=> ?_)
  obtain ⟨oe,EM,hce⟩:=he
  have Ci:fE Vn z TI TO .ellipsis:=Th _ _ O.i2z.symm (V_.extBut _ _ O.TOz.symm (WB.extBut _ _ O.i1z.symm Ti))
  have ph:e≠z:=fun x=>by subst x;rw[Ci] at EM;cases EM;simp at hce
  refine ck Ci (by simp) fun XE _ Tg=>hE XE e VV (fun c o c1 c2 c3 c4 x=>Tg.extBut _ _ c1 (Th _ _ c4 (V_.extBut _ _ c2 (WB.extBut _ _ c3 (Xy.extBut _ _ c1 x))))) ⟨oe,Tg.extBut _ _ ph EM,hce⟩
theorem WalksU.pg (O:Rv z TI TO i1 i2) (D1:Draws prog w A.in1 i1 [i1] n1 P1 NX) (D2:Draws prog w A.in1 i2 [i2] n2 P2 NW):
  WalksU prog w A z [z,TI,TO,i1,i2] [z,TO,i1,i2] (min n1 n2) (fun i vals=>∃x y,P1 i x/\P2 i y/\vals= #[x,y]) (pB z TI TO i1 i2 NX NW) (pA z TI TO i1 i2 NX NW) where
 sub:=in4 (.head _) (.tail _ (.tail _ (.head _))) (.tail _ (.tail _ (.tail _ (.head _)))) (.tail _ (.tail _ (.tail _ (.tail _ (.head _)))))
 frame:=fun i h h' ⟨hz,hTI,a,b,hTO,h1,h2⟩ hk=>
  have k1:=hk i1 (.tail _ (.tail _ (.tail _ (.head _))))
  have k2:=hk i2 (.tail _ (.tail _ (.tail _ (.tail _ (.head _)))))
  ⟨hk z (.head _) _ hz,hk TI (.tail _ (.head _)) _ hTI,a,b,hk TO (.tail _ (.tail _ (.head _))) _ hTO,D1.frame _ _ _ h1 (in1 k1),D2.frame _ _ _ h2 (in1 k2)⟩
 item:=fun i s Q E hi ⟨hz,hTI,a,b,hTO,h1,h2⟩ hQ=>by
  have hT:s.TypeIs (.ref z) "zip" :=⟨_,hz,rfl⟩
  have lt:∀{c o},s.heap.get? c=some o->s.heap.objs.size≠c:=fun e=>bU (gJ e)
  refine g_ (wpAny_attempt (bS (name:=fz "__next__") hT aN
   (cG aN hT F.entry_zip_next
    (J2 O D1 D2 hz hTI hTO h1 h2 (d7 hi (Nat.min_le_left ..)) (d7 hi (bq ..)) fun x y h' tk hx hy a1 a2 a3 a4 a5 a6=>gU ?_) (F.args_zip_next_1 _))))
  exact hQ s.heap.objs.size #[x,y] h' tk ⟨x,y,hx,hy,rfl⟩ ⟨_,a5,rfl,_,rfl⟩ ⟨⟨a1,a6 _ _ O.TIz O.TITO O.TIi1 O.TIi2 hTI,_,_,a2,a3,a4⟩,lt hz,lt hTO,(D1.live _ _ h1).elim fun _=>lt,(D2.live _ _ h2).elim fun _=>lt⟩
   fun c o hc=>(mD hc).elim fun n1 n2 n3 n4=>a6 c o n1 n2 n3 n4
 go:=fun elts k pos i T s Q E ⟨⟨hz,hTI,a,b,hTO,h1,h2⟩,_,_,_,_⟩ hQ=>
  wpAny_letOwnedTupleGo_zip hz fun h' hz' hs'=>hQ h' ⟨hz',hs'.extBut _ _ O.TIz hTI,a,b,hs'.extBut _ _ O.TOz hTO,D1.frame _ _ _ h1 (in1 fun o=>hs'.extBut _ o O.i1z),
   D2.frame _ _ _ h2 (in1 fun o=>hs'.extBut _ o O.i2z)⟩ fun c o hc=>hs'.extBut _ o fun e=>hc (e▸ .head _)
 apart:=fun i T h ⟨_,t1,t2,t3,t4⟩ hT=>in4 (p:=fun y=>T≠y) t1 t2 t3 t4 T hT rfl
 done:=fun s Q E ⟨hz,hTI,a,b,hTO,h1,h2⟩ hQ=>by
  have hT:s.TypeIs (.ref z) "zip" :=⟨_,hz,rfl⟩
  have hm:min n1 n2=n1\/(min n1 n2<n1/\min n1 n2=n2):=(Nat.le_total n1 n2).elim (fun l=> .inl (cg l)) fun l=>(Nat.eq_or_lt_of_le l).elim (fun e=> .inl (e▸Nat.min_self n2)) fun l'=> .inr ⟨aG (bq ..) l',Nat.min_eq_right l⟩
  refine g_ (wpAny_attempt (bS (name:=fz "__next__") hT aN
   (cG aN hT F.entry_zip_next (GB O D1 D2 hz hTI hTO h1 h2 hm fun h' e tk hk he=> ?_) (F.args_zip_next_1 _))))
  obtain ⟨o,ho,hc⟩:=he
  exact g_ (wpAny_isInstance (T:="StopIteration") (b:=true) ⟨o,ho,hc⟩ isSubtype_stop (gU (hQ _ tk fun c o hc=>(mD hc).elim fun n1 n2 n3 n4=>hk c o n1 n2 n3 n4)))
 self:=fun i s Q E hst hQ=>wpAny_pyIter_zip hst.zp hQ
end
end
def uv (x:Str):String:=if x.cps.all (·<128)=true then "str_ascii_iterator" else "str_iterator"
def FN (x:Str) (t:Tok):Obj:={cls:= .type (uv x),data:= .fields #[.str x t,.int 0 0]}
section
variable {prog:gP}{w:g8}{A:gY}{E:h_->g7->Prop}{s:g7}
theorem Tf {x:Str}{t:Tok}{Q:h_->g7->Prop}(hQ:Q (.ref s.heap.objs.size) {s with heap:=s.heap.push (FN x t)}):gW (gO prog w) A (fM (.str x t)) Q E s:=by
 cases ha:x.cps.all (·<128)
 ·exact wpAny_pyIter_wide ha (by unfold FN uv at hQ;rw[ha] at hQ;exact hQ)
 ·exact wpAny_pyIter_ascii ha (by unfold FN uv at hQ;rw[ha] at hQ;exact hQ)
theorem Rr {hh:A.handled=none}(it:Addr) (x:Str) (t:Tok):Draws prog w A it [it] x.cps.size (fun i v=>∃c u,x.cps[i]?=some c/\v= .str ⟨#[c]⟩ u) (fun i h=>h.IsStrIter it (uv x) x t i):=by
 unfold uv
 cases ha:x.cps.all (·<128)
 ·exact Draws.strWide hh it x t
 ·exact Draws.strAscii hh it x t
end
abbrev sI (h:Heap) (x:Str) (t:Tok):Heap:=h.push (FN x t)
abbrev sG (h:Heap) (x y:Str) (t u:Tok):Heap:=(sI h x t).push (FN y u)
abbrev sE (h:Heap) (x y:Str) (t u:Tok):Heap:=(sG h x y t u).push {cls:= .type "tuple",data:= .seq #[.ref h.objs.size,.ref (sI h x t).objs.size]}
abbrev sD (h:Heap) (x y:Str) (t u:Tok):Heap:=(sE h x y t u).push {cls:= .type "tuple",data:= .seq #[.none,.none]}
abbrev yY (h:Heap) (x y:Str) (t u:Tok):Heap:=(sD h x y t u).push {cls:= .type "zip",data:= .fields #[.none,.bool false,.bool false,.ref (sG h x y t u).objs.size,.ref (sE h x y t u).objs.size]}
set_option maxHeartbeats 2000000 in
theorem Rq (x y:Str) (t u:Tok):
  Meets (dY.«zip.__new__» ⟨[.type "zip",.str x t,.str y u],[]⟩) (fun _ R s=>R (.ok (.ret (.ref (sD s.heap x y t u).objs.size))) {s with heap:=yY s.heap x y t u}):=
 .of_wp fun prog w A R s h=>by
  obtain ⟨hp,g,d,tk,os⟩:=s
  have hsub:=sub_zip
  have p1:∀{A:gY}{E:h_->g7->Prop}{Q:h_->g7->Prop}{h0:Heap},Q (.ref h0.objs.size) ⟨h0.push (FN x t),g,d,tk,os⟩->gW (gO prog w) A (fM (.str x t)) Q E ⟨h0,g,d,tk,os⟩:=fun h=>Tf h
  have p2:∀{A:gY}{E:h_->g7->Prop}{Q:h_->g7->Prop}{h0:Heap},Q (.ref h0.objs.size) ⟨h0.push (FN y u),g,d,tk,os⟩->gW (gO prog w) A (fM (.str y u)) Q E ⟨h0,g,d,tk,os⟩:=fun h=>Tf h
  iterate 14 (first|wp_step)
  refine g_ ?_
  simp only[aZ,List.forIn_nil]
  refine g_ (g_ (fu (p1 (gU ?_))))
  refine g_ (g_ (fu (p2 (gU ?_))))
  refine gU ?_
  refine gU ?_
  show gW _ _ (dg [.ref hp.objs.size,.ref (hp.push (FN x t)).objs.size]>>=_) _ _ _
  refine g_ (wpAny_newTuple ?_)
  show gW _ _ (dg [.none,.none]>>=_) _ _ _
  refine g_ (wpAny_newTuple ?_)
  show gW _ _ (newObj (.type "zip") (.fields #[.none,.bool false,.bool false,.ref _,.ref _])>>=_) _ _ _
  refine g_ (b7 ?_)
  refine gU ?_
  exact⟨_,rfl,h⟩
end
def Wi (x y:Str):List (AV×AV):=(gH x.cps.toList y.cps.toList).map fun p=>(.d (.str (Zj p.1)),.d (.str (Zj p.2)))
section
variable {prog:gP}{w:g8}{A:gY}{E:h_->g7->Prop}{s:g7}
theorem J1 {x y:Str}{t u:Tok}{Q:h_->g7->Prop}
  (h:∀h',fE h' (s.heap.objs.size+4) (s.heap.objs.size+2) (s.heap.objs.size+3) .none->fS h' (s.heap.objs.size+2) (.ref s.heap.objs.size) (.ref (s.heap.objs.size+1))->
   fS h' (s.heap.objs.size+3) .none .none->h'.get? s.heap.objs.size=some (FN x t)->h'.get? (s.heap.objs.size+1)=some (FN y u)->
   (∀c o,s.heap.get? c=some o->h'.get? c=some o)->Q (.ref (s.heap.objs.size+4)) {s with heap:=h'}):
  gW (gO prog w) A (call (.type "zip") [.str x t,.str y u]) Q E s:=by
 refine callType_new F.called_zip (by decide) (F.typeCall_zip_2 _ _) (F.newCall_zip_2 _ _) (fun obj=>F.args_object_init_3 obj _ _) F.entry_zip_new (Rq x y t u) ?_
 have z1:(sI s.heap x t).objs.size=s.heap.objs.size+1:=b8 ..
 have z2:(sG s.heap x y t u).objs.size=s.heap.objs.size+2:=by rw[b8,z1]
 have z3:(sE s.heap x y t u).objs.size=s.heap.objs.size+3:=by rw[b8,z2]
 have z4:(sD s.heap x y t u).objs.size=s.heap.objs.size+4:=by rw[b8,z3]
 have g5:(yY s.heap x y t u).get? (sD s.heap x y t u).objs.size=some _:=fy _ rfl
 have g4:(yY s.heap x y t u).get? (sE s.heap x y t u).objs.size=some _:=gD _ (fy _ rfl)
 have g3:(yY s.heap x y t u).get? (sG s.heap x y t u).objs.size=some _:=gD _ (gD _ (fy _ rfl))
 have g2:(yY s.heap x y t u).get? (sI s.heap x t).objs.size=some _:=gD _ (gD _ (gD _ (fy _ rfl)))
 have g1:(yY s.heap x y t u).get? s.heap.objs.size=some _:=gD _ (gD _ (gD _ (gD _ (fy _ rfl))))
 show _/\_
 rw[z2,z3,z4] at g5
 rw[z1,z2] at g3
 rw[z3] at g4
 rw[z1] at g2
 rw[z4]
 exact⟨⟨_,g5,rfl⟩,h _ g5 g3 g4 g1 g2 fun c o x=>gD _ (gD _ (gD _ (gD _ (gD _ x))))⟩
end
theorem DO (N:Nat):Rv (N+4) (N+2) (N+3) N (N+1):=by
 constructor<;>exact fun h=>absurd (show (_:Nat)=_ from h) (by omega)
section
variable {G:Gm}{n:Nat}
theorem uu {x y:Str}:Z5 G n (.bi .zip) [.d (.str x),.d (.str y)] [] (.loc 0) [.zp (Wi x y)]:=fun loc os L fs ω fv vs rf rv A h hA R s Q' E hs k kx=>by
 subst hs
 obtain rfl:fv= .type "zip" :=rf
 obtain ⟨v1,iC,rfl,r1,v2,i_,rfl,r2,r3⟩:=rv
 obtain rfl:i_= []:=r3
 obtain ⟨t,rfl⟩:∃t,v1= .str x t:=by unfold Rep Y8 at r1;exact r1
 obtain ⟨u,rfl⟩:∃u,v2= .str y u:=by unfold Rep Y8 at r2;exact r2
 obtain ⟨m,cs,S,new,_,_⟩:=R.cs
 refine J1 fun h' hz hTI hTO g1 g2 hk=> ?_
 obtain ⟨N,hn⟩:∃N:Nat,s.heap.objs.size=N:=⟨_,rfl⟩
 rw[hn] at hz hTI hTO g1 g2
 rw[hn]
 have hold:∀{a:Nat}{o},s.heap.get? a=some o->a<N:=fun e=>hn▸gJ e
 have fresh:∀b:Nat,N<=b->s.heap.get? b=none:=fun b hb=>by
  cases e:s.heap.get? b with
  |none=>rfl
  |some o=>exact absurd (hold e) (by omega)
 have O:Rv (N+4) (N+2) (N+3) N (N+1):=DO N
 let fp:List Addr:= [N+4,N+2,N+3,N,N+1]
 have lv:∀b∈fp,∃o,h'.get? b=some o:=pq ⟨_,hz⟩ ⟨_,hTI⟩ ⟨_,hTO⟩ ⟨_,g1⟩ ⟨_,g2⟩
 have ge:∀b:Nat,b∈fp->N<=b:=pq (cR ..) (cR ..) (cR ..) (gi _) (cR ..)
 have i9:Y3 (ω.ρ++ [N+4]) ω.B (N+4) (.zp (Wi x y)) (WS fp h'):=by
  refine⟨fp,[N+4,N+3,N,N+1],min x.cps.size y.cps.size,_,_,_,0,⟨fun b hb=> ?_,fun b hb=> ?_,fun ZO hs=> ?_⟩,.head _,fun prog w A hA=>WalksU.pg O (Rr (A:=A.in1) (hh:=hA) N x t) (Rr (A:=A.in1) (hh:=hA) (N+1) y u),fun i ZO st=> ?_,?_,fun j vals e he hP=> ?_⟩
  ·obtain ⟨o,e⟩:=lv b hb
   rw[Yc hb,e];exact fun z=>nomatch z
  ·exact Xl hb
  ·have at':∀b∈fp,∀o,h'.get? b=some o->ZO.get? b=some o:=fun b hb o e=>hs b o ((Yc hb).trans e)
   exact⟨at' _ (.head _) _ hz,at' _ (.tail _ (.head _)) _ hTI,_,_,at' _ (.tail _ (.tail _ (.head _))) _ hTO,⟨_,at' _ (.tail _ (.tail _ (.tail _ (.head _)))) _ g1,rfl,rfl⟩,⟨_,at' _ (.tail _ (.tail _ (.tail _ (.tail _ (.head _))))) _ g2,rfl,rfl⟩⟩
  ·obtain ⟨a1,a2,_,_,a3,⟨_,a4,_⟩,⟨_,a5,_⟩⟩:=st
   exact pq ⟨_,a1⟩ ⟨_,a2⟩ ⟨_,a3⟩ ⟨_,a4⟩ ⟨_,a5⟩
  ·show 0+(Wi x y).length=min x.cps.size y.cps.size
   rw[Wi,gn,List.length_zip,bO];rfl
  ·obtain ⟨vx,vy,⟨c,tc,hc,rfl⟩,⟨c',i8,hc',rfl⟩,rfl⟩:=hP
   rw[bO] at hc hc'
   unfold Wi at he
   rw[d8] at he
   have o_:(gH x.cps.toList y.cps.toList)[j]?=some (c,c'):=by
    rw[List.getElem?_zip_eq_some]
    exact⟨by rw[bh];exact hc,by rw[bh];exact hc'⟩
   rw[o_] at he
   cases he
   exact⟨_,_,rfl,by unfold Rep Y8;exact⟨tc,rfl⟩,_,_,rfl,by unfold Rep Y8;exact⟨i8,rfl⟩,rfl⟩
 have S':SS G.hS ω.B L m (Y3 (ω.ρ++ [N+4]) ω.B (N+4) (.zp (Wi x y))::cs) h':=S.Nd hk (WS fp h') (fun b hb=>fresh b (ge b (Xl hb))) (fun b o e=>VN e) i9
 obtain ⟨R',r'⟩:=new (N+4) (.zp (Wi x y)) h' S'
 exact k _ h' s.toks ⟨.loc 0,_,_,⟨rfl,rfl⟩,Wd.le.new,R',r'⟩
end
section
variable {G:Gm}
abbrev NV:Fn:=Zc 121 none ["text","at","wanted","is_expression"] []
abbrev VB:Stmt:=VZ NV 1
theorem DN:VB= .For (VL VB) (LB VB) (Wt VB) [] (FY VB):=by rfl'
theorem DM:VL VB= .Tuple (Pu (VL VB)) (mU (VL VB)) (vO (VL VB)):=by rfl'
abbrev Xo (T:Str) (WA:Int) (W:Str) (ie:Bool):List (Str×AV):= [("text",.d (.str T)),("at",.d (.int WA)),("wanted",.d (.str W)),("is_expression",.d (.bool ie))]
abbrev Lp (p:Nat×Nat):AV×AV:=(.d (.str (Zj p.1)),.d (.str (Zj p.2)))
def Wh (c:Nat):Prop:=c=97\/c=65\/c=98\/c=66\/c=10\/c=46
theorem VA {c:Nat}(h:Wh c):small (gm (Zj c)).length=true:=by
 rcases h with rfl|rfl|rfl|rfl|rfl|rfl<;>rfl'
def GA (c t:Nat):Bool:=sq (gm (Zj c)) (gm (Zj t))
def Pc (ie:Bool) (c t:Nat):Bool:=match ie,sq (Zj c) "." with|true,true=> !sq (Zj t) "\n" |_,_=>GA c t
def S5 (ie:Bool):List (Nat×Nat)->Bool| []=>true|p::l=>match Pc ie p.1 p.2 with|true=>S5 ie l|false=>false
theorem Gz {n:Nat}{T W:Str}{WA:Int}{ie:Bool}{c t:Nat}{els:List (AV×AV)}(hT:ZY G T0) (hc:Wh c) (ht:Wh t) (hz:Y9 1 [AO.zp els]=true) {K:Zk->St->Prop}
  (k1:Pc ie c t=true->K .next ⟨Xo T WA W ie,[.zp els],[]⟩) (k2:Pc ie c t=false->K (.ret (.d (.bool false))) ⟨Xo T WA W ie,[.zp els],[]⟩):
  X0 G (n+1) (fm NV) (Wt VB) ⟨Mine.put (Mine.put (Xo T WA W ie) "one" (.d (.str (Zj c)))) "other" (.d (.str (Zj t))),[.zp els],[]⟩ K Zn:=by
 let L3:List (Str×AV):=Mine.put (Mine.put (Xo T WA W ie) "one" (.d (.str (Zj c)))) "other" (.d (.str (Zj t)))
 have fin:∀{fl:Zk},YA 1 fl fl->Zp YA 1 fl (Xo T WA W ie) [.zp els] fl ⟨L3,[.zp els],[]⟩:=fun{fl} hw=>
  Zz (H':= [.zp els]) (g:= []) (by show (true && Y9 1 [.zp els])=true;rw[hz];rfl) hw (SG (by rfl'))
 cases ie with
 |false=>
  cases e:GA c t with
  |true=>
   have hk:=k1 e
   refine J.trim (Yq:= [.f 1176,.k 1179,.k 1179,.f 1179]) YA.rf ((ZA hT 30).ss ?_) fun a σ q=>⟨_,_,_,_,q,hk⟩
   exact @cast (false=false/\small (gm (Zj c)).length=true/\small (gm (Zj t)).length=true/\(!sq (gm (Zj c)) (gm (Zj t)))=false/\Zp YA 1 .next (Xo T WA W false) [.zp els] .next ⟨L3,[.zp els],[]⟩) _ (by rfl') ⟨rfl,VA hc,VA ht,congrArg (!·) e,fin trivial⟩
  |false=>
   have hk:=k2 e
   refine J.trim (Yq:= [.f 1176,.k 1179,.k 1179,.t 1179]) YA.rf ((ZA hT 30).ss ?_) fun a σ q=>⟨_,_,_,_,q,hk⟩
   exact @cast (false=false/\small (gm (Zj c)).length=true/\small (gm (Zj t)).length=true/\(!sq (gm (Zj c)) (gm (Zj t)))=true/\Zp YA 1 (.ret (.d (.bool false))) (Xo T WA W false) [.zp els] (.ret (.d (.bool false))) ⟨L3,[.zp els],[]⟩) _ (by rfl') ⟨rfl,VA hc,VA ht,congrArg (!·) e,fin (.inl ⟨rfl,rfl⟩)⟩
 |true=>
  unfold Pc at k1 k2
  cases d:sq (Zj c) "." with
  |true=>
   rw[d] at k1 k2
   cases e:sq (Zj t) "\n" with
   |false=>
    have hk:=k1 (by rw[e];rfl)
    refine J.trim (Yq:= [.t 1176,.t 1176,.f 1177]) YA.rf ((ZA hT 30).ss ?_) fun a σ q=>⟨_,_,_,_,q,hk⟩
    exact @cast (true=true/\sq (Zj c) "." =true/\sq (Zj t) "\n" =false/\Zp YA 1 .next (Xo T WA W true) [.zp els] .next ⟨L3,[.zp els],[]⟩) _ (by rfl') ⟨rfl,d,e,fin trivial⟩
   |true=>
    have hk:=k2 (by rw[e];rfl)
    refine J.trim (Yq:= [.t 1176,.t 1176,.t 1177]) YA.rf ((ZA hT 30).ss ?_) fun a σ q=>⟨_,_,_,_,q,hk⟩
    exact @cast (true=true/\sq (Zj c) "." =true/\sq (Zj t) "\n" =true/\Zp YA 1 (.ret (.d (.bool false))) (Xo T WA W true) [.zp els] (.ret (.d (.bool false))) ⟨L3,[.zp els],[]⟩) _ (by rfl') ⟨rfl,d,e,fin (.inl ⟨rfl,rfl⟩)⟩
  |false=>
   rw[d] at k1 k2
   cases e:GA c t with
   |true=>
    have hk:=k1 e
    refine J.trim (Yq:= [.t 1176,.f 1176,.k 1179,.k 1179,.f 1179]) YA.rf ((ZA hT 30).ss ?_) fun a σ q=>⟨_,_,_,_,q,hk⟩
    exact @cast (true=true/\sq (Zj c) "." =false/\small (gm (Zj c)).length=true/\small (gm (Zj t)).length=true/\(!sq (gm (Zj c)) (gm (Zj t)))=false/\Zp YA 1 .next (Xo T WA W true) [.zp els] .next ⟨L3,[.zp els],[]⟩) _ (by rfl') ⟨rfl,d,VA hc,VA ht,congrArg (!·) e,fin trivial⟩
   |false=>
    have hk:=k2 e
    refine J.trim (Yq:= [.t 1176,.f 1176,.k 1179,.k 1179,.t 1179]) YA.rf ((ZA hT 30).ss ?_) fun a σ q=>⟨_,_,_,_,q,hk⟩
    exact @cast (true=true/\sq (Zj c) "." =false/\small (gm (Zj c)).length=true/\small (gm (Zj t)).length=true/\(!sq (gm (Zj c)) (gm (Zj t)))=true/\Zp YA 1 (.ret (.d (.bool false))) (Xo T WA W true) [.zp els] (.ret (.d (.bool false))) ⟨L3,[.zp els],[]⟩) _ (by rfl') ⟨rfl,d,VA hc,VA ht,congrArg (!·) e,fin (.inl ⟨rfl,rfl⟩)⟩
theorem ur {l:List (Nat×Nat)}:Y9 1 [AO.zp (l.map Lp)]=true:=by
 unfold Y9
 rw[fP]
 have:(AO.zp (l.map Lp)).sc 1=true:=by
  show ((l.map Lp).all fun x=>x.1.sc 1 && x.2.sc 1)=true
  rw[List.all_map]
  exact gu.mpr fun _ _=>rfl
 rw[this];rfl
abbrev Gy:Bool->Zk|true=> .next|false=> .ret (.d (.bool false))
theorem Gx {n:Nat}{T W:Str}{WA:Int}{ie b:Bool}{l:List (Nat×Nat)}(hT:ZY G T0) (hl:∀p∈l,Wh p.1/\Wh p.2) (hs:small T.length=true) (hz:Wi W (QZ T (some WA) .none)=l.map Lp) (hr:S5 ie l=b):
  Wb G (n+1) (fm NV) VB (Xo T WA W ie) [] (Gy b) (Xo T WA W ie) []:=by
 let K3:Zk->St->Prop:=Zp YA 0 (Gy b) (Xo T WA W ie) []
 let S:List (Nat×Nat)->St:=fun l=>⟨Xo T WA W ie,[.zp (l.map Lp)],[]⟩
 have cz:Z5 G (n+1) (.bi .zip) [.d (.str W),.d (.str (QZ T (some WA) .none))] [] (.loc 0) [.zp (l.map Lp)]:=hz▸uu
 refine WI (F:=24) (os:= [.k 1175,.con 1175 (.loc 0) [.zp (l.map Lp)]]) hT DN (by rfl') ?_
 refine @cast (small T.length=true/\Z5 G (n+1) (.bi .zip) [.d (.str W),.d (.str (QZ T (some WA) .none))] [] (.loc 0) [.zp (l.map Lp)]/\Kw G (n+1) (fm NV) 0 (VL VB) (Wt VB) (S l) K3) _ (by rfl') ⟨hs,cz,?_⟩
 refine Wo (fun c σ=>∃l,c=l.length/\(∀p∈l,Wh p.1/\Wh p.2)/\S5 ie l=b/\σ=S l) ?_ l.length ⟨l,rfl,hl,hr,rfl⟩
 rintro c _ ⟨l,hc,hl,hf,rfl⟩
 rw[DM]
 have fin:∀{fl:Zk}{g:List AO},fl=Gy b->YA 0 fl fl->K3 fl ⟨Xo T WA W ie,[]++g,[]⟩:=fun{fl g} e h=>by
  subst e
  exact Zz (H':= []) (g:=g) (by rfl') h (SG (by rfl'))
 refine xA (ts:=Pu (VL VB)) (σ:=S l) (k:=0) (els:=l.map Lp) rfl (by rfl') (by rfl') ?_
 cases l with
 |nil=>exact fin (g:= [.gone]) (by rw[show b=true from hf.symm]) trivial
 |cons p l=>
  obtain ⟨p1,p2⟩:=hl p (List.mem_cons_self ..)
  have hf:(match Pc ie p.1 p.2 with|true=>S5 ie l|false=>false)=b:=hf
  show IB G (n+1) (fm NV) _ [.d (.str (Zj p.1)),.d (.str (Zj p.2))] ⟨Xo T WA W ie,[.zp (l.map Lp)],[]⟩ _ Zn
  refine(ZA hT 16).ae ?_
  refine @cast (X0 G (n+1) (fm NV) (Wt VB) ⟨Mine.put (Mine.put (Xo T WA W ie) "one" (.d (.str (Zj p.1)))) "other" (.d (.str (Zj p.2))),[.zp (l.map Lp)],[]⟩ (Yl K3 fun Zq=>∃c',c'<c/\∃l,c'=l.length/\(∀p∈l,Wh p.1/\Wh p.2)/\S5 ie l=b/\Zq=S l) Zn) _ (by rfl') ?_
  refine Gz hT p1 p2 ur (fun e=> ?_) fun e=> ?_
  ·rw[e] at hf
   exact⟨l.length,by rw[hc];exact fU _,l,rfl,fun q hq=>hl q (aB _ hq),hf,rfl⟩
  ·rw[e] at hf
   exact fin (g:= [.zp (l.map Lp)]) (by rw[<-hf]) (.inl ⟨rfl,rfl⟩)
theorem YG {n:Nat}(h:n<=100):small n=true:=fT (by omega)
theorem Ae {n:Nat}{T W:Str}{WA:Int}{ie:Bool}{l:List (Nat×Nat)}(hT:ZY G T0) (hl:∀p∈l,Wh p.1/\Wh p.2) (hs:T.length<=100) (hw:W.length<=100) (hin:WA+W.length<=T.length) (hz:Wi W (QZ T (some WA) .none)=l.map Lp):
  Z5 G (n+2) (.Z8 (.ref 1610)) [.d (.str T),.d (.int WA),.d (.str W),.d (.bool ie)] [] (.d (.bool (S5 ie l))) []:=by
 have c:=Gx (n:=n) (ie:=ie) hT hl (YG hs) hz rfl
 have h0:decide ((T.length:Int)<WA+W.length)=false:=decide_eq_false (by omega)
 revert c
 cases S5 ie l with
 |true=>
  intro c
  exact YY (F:=24) hT (by rfl') [.k 1173,.k 1173,.f 1173,.cut 1175 .next (Xo T WA W ie) []] (fun loc=>small W.length=true/\small T.length=true/\decide ((T.length:Int)<WA+W.length)=false/\Wb G (n+1) (fm NV) VB (Xo T WA W ie) [] .next (Xo T WA W ie) []/\Post loc (.d (.bool true)) [] (.d (.bool true)) ⟨loc,[],[]⟩) (fun loc=>by rfl') fun loc=>⟨YG hw,YG hs,h0,c,Z1 rfl⟩
 |false=>
  intro c
  exact YY (F:=24) hT (by rfl') [.k 1173,.k 1173,.f 1173,.cut 1175 (.ret (.d (.bool false))) (Xo T WA W ie) []] (fun loc=>small W.length=true/\small T.length=true/\decide ((T.length:Int)<WA+W.length)=false/\Wb G (n+1) (fm NV) VB (Xo T WA W ie) [] (.ret (.d (.bool false))) (Xo T WA W ie) []/\Post loc (.d (.bool false)) [] (.d (.bool false)) ⟨loc,[],[]⟩) (fun loc=>by rfl') fun loc=>⟨YG hw,YG hs,h0,c,Z1 rfl⟩
theorem J0 {n:Nat}{T W:Str}{WA:Int}{ie:Bool}(hT:ZY G T0) (hs:T.length<=100) (hw:W.length<=100) (hin:T.length<WA+W.length):
  Z5 G (n+2) (.Z8 (.ref 1610)) [.d (.str T),.d (.int WA),.d (.str W),.d (.bool ie)] [] (.d (.bool false)) []:=
 YY (F:=24) hT (by rfl') [.k 1173,.k 1173,.t 1173] (fun loc=>small W.length=true/\small T.length=true/\decide ((T.length:Int)<WA+W.length)=true/\Post loc (.d (.bool false)) [] (.d (.bool false)) ⟨loc,[],[]⟩) (fun loc=>by rfl') fun loc=>⟨YG hw,YG hs,decide_eq_true (by omega),Z1 rfl⟩
def uq (x:Expr):Expr:=Ye 8 x (.Constant .none 0 default) fun h=> @cU (fun _=>Expr) x h fun e _ _ _=>e
def JZ (x:Expr):eG:=Ye 8 x (⟨.Constant .none 0 default,.Constant .none 0 default,[],0⟩) fun h=> @cU (fun _=>eG) x h fun _ l _ _=>l.head?.getD (⟨.Constant .none 0 default,.Constant .none 0 default,[],0⟩)
def uo (x:Expr):gQ:=Ye 8 x (default) fun h=> @cU (fun _=>gQ) x h fun _ _ s _=>s
def yX (x:Expr):Pos:=Ye 8 x (default) fun h=> @cU (fun _=>Pos) x h fun _ _ _ p=>p
def yW (x:Expr):Pos:=Ye 23 x (default) fun h=> @dG (fun _=>Pos) x h fun _ p=>p
abbrev mu:Fn:=Zc 122 none ["text","low","high","place","wanted","is_expression","count"] []
abbrev QS:Stmt:=VZ mu 1
theorem Ad:QS= .For (VL QS) (LB QS) (Wt QS) [] (FY QS):=by rfl'
abbrev yV:Stmt:=((Wt QS)[1]?).getD (.Pass default)
abbrev Ac:Expr:=y_ yV
theorem Ab:yV= .Assign [.Name "some" (yW (uP yV))] (.ListComp (uq Ac) [⟨.Name "at" (yW (JZ Ac).target),(JZ Ac).iter,[Al (JZ Ac).ifs],0⟩] (uo Ac) (yX Ac)) (pN yV):=by rfl'
abbrev pS:Fm:=KX mu 0
abbrev cS (T W:Str) (ie:Bool):List AO:= [.cell (some (.d (.bool ie))),.cell (some (.d (.str W))),.cell (some (.d (.str T)))]
abbrev JY (lo hi p k:Int) (f:AV) (t:AV) (a b:Int):List (Str×AV):= [("low",.d (.int lo)),("high",.d (.int hi)),("place",.d (.int p)),("count",.d (.int k)),("found",f),("turn",t),("first",.d (.int a)),("last",.d (.int b))]
abbrev JX (x:Int):List (Str×AV):= [("at",.d (.int x))]
def YL (P:Int->Bool) (x:Int):Nat->List Int|0=> []|c+1=>match P x with|true=>x::YL P (x+1) c|false=>YL P (x+1) c
theorem J.os {ι α:Type}{n:Nat}{Φ:Fm}{RR:Wd->ι->α->Prop}{t:Env->Sem α}{loc:List (Str×AV)}{H:List AO}{os Yq:List Gh}{K:ι->St->Prop}{X:XK}(x:J G n Φ RR t ⟨loc,H,Yq⟩ K X):J G n Φ RR t ⟨loc,H,os⟩ K X:=fun env ω fs he A h hA R=>x he hA R
theorem Ve.os {n:Nat}{f:AV}{as:List AV}{loc:List (Str×AV)}{H:List AO}{os Yq:List Gh}{K:AV->St->Prop}{X:XK}(x:Ve G n f as ⟨loc,H,Yq⟩ K X):Ve G n f as ⟨loc,H,os⟩ K X:=fun L fs ω fv vs rf rv A h hA R=>x rf rv hA R
theorem Cg {n F:Nat}{Φ:Fm}{e:Expr}{loc:List (Str×AV)}{H:List AO}{os:List Gh}{K:Bool->St->Prop}{X:XK}(hT:ZY G T0) (Yq:List Gh) (a:Bool) (ZH:St) (P:Prop) (h:P=(ev G T0 F).t n Φ e ⟨loc,H,Yq⟩ (fun x s=>x=a/\s=ZH)) (p:P) (k:K a ZH):V5 G n Φ e ⟨loc,H,os⟩ K X:=by
 refine J.imp (J.os (t:=fun env=>gc e env (eval e env)) ((ZA hT F).t (@cast _ _ h p))) ?_ fun _ _ f=>f.elim
 rintro x s ⟨rfl,rfl⟩
 exact k
theorem JW {n:Nat}{T W:Str}{ie:Bool}{lo hi p k a b:Int}{f t:AV}{tl:List AV}{P:Int->Bool}{K:Zk->St->Prop}(hT:ZY G T0) (hw:W.length<=100) (ha:0<=a/\a<=1000) (hb: -1000<=b/\b<=1000) (hc0:b - W.length+1 - a<=100)
  (hP:∀x,0<=x->Z5 G (n+2) (.Z8 (.ref 1610)) [.d (.str T),.d (.int x),.d (.str W),.d (.bool ie)] [] (.d (.bool (P x))) [])
  (k0:K .next ⟨Mine.put (JY lo hi p k f t a b) "some" (.loc 5),cS T W ie++ [.it false tl,.gone,.Z_ (YL P a (b - W.length+1 - a).toNat)],[]⟩):
  We G (n+2) pS yV ⟨JY lo hi p k f t a b,cS T W ie++ [.it false tl],[]⟩ K Zn:=by
 let H0:List AO:=cS T W ie++ [.it false tl]
 let H:Int->Nat->List Int->List AO:=fun x c l=>H0++ [.it false (ZI x c),.Z_ l]
 let c0:=(b - (W.length:Int)+1 - a).toNat
 have hsm:∀i:Int, -2000<=i/\i<=2000->Y6 i=true:=fun i hi=>fT (VY hi (by decide))
 rw[Ab]
 refine J.os (Yq:= [.k 1186,.k 0]) ?_
 refine LM (by rfl') (by rfl') (by rfl') (by rfl') (by rfl') (by rfl') ?_
 have big:(ev G T0 24).e (n+2) pS (JZ Ac).iter ⟨JY lo hi p k f t a b,H0,[.k 1186,.k 0]⟩ fun x σ=>VO 0 x σ fun k' ZW=>k'=4/\ZW=⟨JY lo hi p k f t a b,H0++ [.it false (ZI a c0)],[]⟩:=
  @cast (small W.length=true/\(match Y6 a with|true=>Y6 (b - (W.length:Int)+1)|false=>false)=true/\4=4/\(⟨JY lo hi p k f t a b,H0++ [.it false (ZI a c0)],[]⟩:St)=⟨JY lo hi p k f t a b,H0++ [.it false (ZI a c0)],[]⟩) _ (by rfl') ⟨YG hw,by rw[hsm a (by omega)];exact hsm _ (by omega),rfl,rfl⟩
 refine Zd.to ((ZA hT 24).e big) ?_
 intro x σ h
 refine Q9.to (XC h) ?_
 rintro b' ZW ⟨k',e,rfl,rfl⟩
 refine⟨4,.it false (ZI a c0),e,rfl,rfl,fun c σ=>∃(x:Int) (l:List Int) (L:List (Str×AV)),0<=x/\l.length+c<=c0/\(L= []\/∃i,L=JX i)/\l++YL P x c=YL P a c0/\σ=⟨L,H x c l,[]⟩,c0,⟨a,[],[],ha.1,by simp,.inl rfl,rfl,rfl⟩,?_⟩
 rintro c _ ⟨x,l,L,hx,iB,hL,hf,rfl⟩
 refine RX ?_
 cases c with
 |zero=>
  refine @cast (K .next ⟨Mine.put (JY lo hi p k f t a b) "some" (.loc 5),H0++ [.gone,.Z_ l],[]⟩) _ (by rfl') ?_
  have hf:l++ []=YL P a c0:=hf
  rw[gE] at hf
  rw[hf];exact k0
 |succ c=>
  have Aa:Mine.put L "at" (.d (.int x))=JX x:=by
   rcases hL with rfl|⟨i,rfl⟩<;>rfl'
  have hf:l++(match P x with|true=>x::YL P (x+1) c|false=>YL P (x+1) c)=YL P a c0:=hf
  have hfit:Z5 G (n+2) (.Z8 (.ref 1610)) [.d (.str T),.d (.int x),.d (.str W),.d (.bool ie)] (H (x+1) c l) (.d (.bool (P x))) (H (x+1) c l):=(hP x hx).at [] (by rfl') (by rfl') (by rfl')
  show V5 G (n+2) _ _ ⟨Mine.put L "at" (.d (.int x)),H (x+1) c l,[]⟩ _ Zn
  rw[Aa]
  revert hf hfit
  cases P x with
  |false=>
   intro hf hfit
   exact Cg (F:=20) hT [.con 1186 (.d (.bool false)) (H (x+1) c l),.f 1186] false ⟨JX x,H (x+1) c l,[]⟩ (Z5 G (n+2) (.Z8 (.ref 1610)) [.d (.str T),.d (.int x),.d (.str W),.d (.bool ie)] (H (x+1) c l) (.d (.bool false)) (H (x+1) c l)/\false=false/\false=false/\(⟨JX x,H (x+1) c l,[]⟩:St)=⟨JX x,H (x+1) c l,[]⟩) (by rfl') ⟨hfit,rfl,rfl,rfl⟩
    ⟨c,fU _,x+1,l,_,by omega,by omega,.inr ⟨x,rfl⟩,hf,rfl⟩
  |true=>
   intro hf hfit
   refine Cg (F:=20) hT [.con 1186 (.d (.bool true)) (H (x+1) c l),.t 1186] true ⟨JX x,H (x+1) c l,[]⟩ (Z5 G (n+2) (.Z8 (.ref 1610)) [.d (.str T),.d (.int x),.d (.str W),.d (.bool ie)] (H (x+1) c l) (.d (.bool true)) (H (x+1) c l)/\true=true/\true=true/\(⟨JX x,H (x+1) c l,[]⟩:St)=⟨JX x,H (x+1) c l,[]⟩) (by rfl') ⟨hfit,rfl,rfl,rfl⟩ ?_
   refine S7 (F:=10) hT (.d (.int x)) ⟨JX x,H (x+1) c l,[]⟩ (by rfl') ?_
   have hlen:l.length<=100:=by
    have:c0<=100:=by omega
    omega
   have KK:Ve G (n+2) (.bi .Yi) [.loc 5,.d (.int x)] ⟨JX x,H (x+1) c l,[.k 0]⟩ (fun _ FZ=>FZ=⟨JX x,H (x+1) c (l++ [x]),[]⟩) Zn:=Um (l:=0) (@cast (small l.length=true/\(⟨JX x,H (x+1) c (l++ [x]),[]⟩:St)=⟨JX x,H (x+1) c (l++ [x]),[]⟩) _ (by rfl') ⟨YG hlen,rfl⟩)
   refine Ve.to (Ve.os KK) ?_
   rintro _ FZ rfl
   refine⟨c,fU _,x+1,l++ [x],_,by omega,by rw[gA];show l.length+1+c<=c0;omega,.inr ⟨x,rfl⟩,?_,rfl⟩
   rw[<-hf,gG];rfl
theorem TR {P:Int->Bool}:∀{c:Nat}{a s:Int},s∈YL P a c->a<=s/\s<a+c/\P s=true
 |0,a,s,h=>by cases h
 |c+1,a,s,h=>by
  unfold YL at h
  cases e:P a with
  |true=>
   rw[e] at h
   rcases gy.mp h with rfl|h
   ·exact⟨by omega,by omega,e⟩
   ·have:=TR h;exact⟨by omega,by omega,this.2.2⟩
  |false=>rw[e] at h;have:=TR h;exact⟨by omega,by omega,this.2.2⟩
theorem TQ {P:Int->Bool}:∀{c:Nat}{a:Int},(YL P a c).length<=c
 |0,a=>gi _
 |c+1,a=>by
  unfold YL
  cases P a with
  |true=>exact Nat.succ_le_succ TQ
  |false=>exact Nat.le_succ_of_le TQ
def pickK (k:Int):List Int->Option Int| []=>none|x::l=>some (match decide (0<k) with|true=>(x::l).getD (UW 0 (x::l).length) 0|false=>(x::l).getD (UW (-1) (x::l).length) 0)
theorem getD_in {l:List Int}{i:Nat}(h:i<l.length):l.getD i 0∈l:=by
 rw[fG,f9 h]
 exact aU _
theorem Lo {k:Nat}:UW (-1) (k+1)=k:=by
 unfold UW
 rw[decide_eq_true (by decide)]
 show ((-1:Int)+((k+1:Nat):Int)).toNat=k
 omega
theorem JV {k:Int}{l:List Int}{s:Int}(h:pickK k l=some s):s∈l:=by
 cases l with
 |nil=>cases h
 |cons x l=>
  unfold pickK at h
  cases e:decide (0<k) with
  |true=>rw[e] at h;cases h;exact getD_in (by rw[Pw (by decide)];simp)
  |false=>rw[e] at h;cases h;exact getD_in (by rw[show (x::l).length=l.length+1 from rfl,Lo];simp)
def Ra (k lo p:Int):Int:=match decide (0<k) with|true=>p|false=>lo
def Pb (k hi p:Int):Int:=match decide (0<k) with|true=>hi|false=>p
def Vz (k m s:Int):Int:=match decide (0<k) with|true=>s+m|false=>s
def Yz (P:Int->Bool) (lo hi m k p:Int):Option Int:=pickK k (YL P (Ra k lo p) (Pb k hi p - m+1 - Ra k lo p).toNat)
def doneF (find:Int->Option Int) (nx:Int->Int):Nat->Int->Bool
 |0,_=>true
 |k+1,p=>match find p with|none=>false|some s=>doneF find nx k (nx s)
abbrev fA (m:Int):Option Int->AV|none=> .d .none|some s=> .d (.tup [.int s,.int (s+m)])
abbrev l5 (lo hi p k:Int) (f:AV):List (Str×AV):= [("low",.d (.int lo)),("high",.d (.int hi)),("place",.d (.int p)),("count",.d (.int k)),("found",f)]
def Uy (k:Int):Int:=match decide (k<0) with|true=> -k|false=>k
abbrev z_:Bool->Zk|true=> .next|false=> .ret (.d .none)
abbrev Mt (m:Int) (b:Option Int):Bool->List (Str×AV)|true=> [("found",fA m b)]|false=> []
abbrev lT (x:Int):List (Str×AV):= [("turn",.d (.int x))]
def mq (T W:Str) (ie:Bool) (lo hi k:Int) (tl:List AV):Option Int->Zk->St->Prop
 |none=>fun fl σ=>fl= .ret (.d .none)/\∃g,σ.hp=cS T W ie++ [.it false tl]++g
 |some s=>fun fl σ=>fl= .next/\(∃g,σ.hp=cS T W ie++ [.it false tl]++g)/\AN 4 σ.loc (l5 lo hi (Vz k W.length s) k (fA W.length (some s)))
theorem DL:Wt QS= [((Wt QS)[0]?).getD (.Pass default),yV]++(Wt QS).drop 2:=by rfl'
theorem DK {n:Nat}{T W:Str}{ie:Bool}{lo hi p k x:Int}{f:AV}{tl:List AV}{P:Int->Bool}{o:Option Int}(hT:ZY G T0) (hw:W.length<=100) (hlo:0<=lo/\lo<=50) (hhi:0<=hi/\hi<=50) (hp:0<=p/\p<=50) (hf:∀m,f.sc m=true)
  (hP:∀x,0<=x->Z5 G (n+2) (.Z8 (.ref 1610)) [.d (.str T),.d (.int x),.d (.str W),.d (.bool ie)] [] (.d (.bool (P x))) []) (ho:Yz P lo hi W.length k p=o):
  X0 G (n+2) pS (Wt QS) ⟨l5 lo hi p k f++lT x,cS T W ie++ [.it false tl],[]⟩ (mq T W ie lo hi k tl o) Zn:=by
 have s1:∀(os:List Gh) (K:Zk->St->Prop),K .next ⟨JY lo hi p k f (.d (.int x)) (Ra k lo p) (Pb k hi p),cS T W ie++ [.it false tl],[]⟩->We G (n+2) pS (((Wt QS)[0]?).getD (.Pass default)) ⟨l5 lo hi p k f++lT x,cS T W ie++ [.it false tl],os⟩ K Zn:=fun os K h=>by
  unfold Ra Pb at h
  cases e:decide (0<k) with
  |true=>
   rw[e] at h
   refine J.os (t:=exec _) (Yq:= [.t 1185]) ?_
   exact(ZA hT 30).s (@cast (decide (0<k)=true/\K .next ⟨JY lo hi p k f (.d (.int x)) p hi,cS T W ie++ [.it false tl],[]⟩) _ (by rfl') ⟨e,h⟩)
  |false=>
   rw[e] at h
   refine J.os (t:=exec _) (Yq:= [.f 1185]) ?_
   exact(ZA hT 30).s (@cast (decide (0<k)=false/\K .next ⟨JY lo hi p k f (.d (.int x)) lo p,cS T W ie++ [.it false tl],[]⟩) _ (by rfl') ⟨e,h⟩)
 rw[DL]
 refine YJ (s1 [] _ ?_)
 refine YJ (JW hT hw (by unfold Ra;split<;>omega) (by unfold Pb;split<;>omega) (by unfold Ra Pb;split<;>omega) hP ?_)
 unfold Yz at ho
 have hlen:(YL P (Ra k lo p) (Pb k hi p - W.length+1 - Ra k lo p).toNat).length<=100:=fN TQ (by unfold Ra Pb;split<;>omega)
 revert ho hlen
 generalize YL P (Ra k lo p) (Pb k hi p - W.length+1 - Ra k lo p).toNat=l
 intro ho hlen
 show X0 G (n+2) pS ((Wt QS).drop 2) ⟨Mine.put (JY lo hi p k f (.d (.int x)) (Ra k lo p) (Pb k hi p)) "some" (.loc 5),cS T W ie++ [.it false tl,.gone,.Z_ l],[]⟩ _ Zn
 cases l with
 |nil=>
  obtain rfl:none=o:=ho
  refine J.os (t:=fY _) (Yq:= [.t 1187]) ?_
  refine(ZA hT 30).ss ?_
  exact @cast (decide (([]:List Int)= [])=true/\(Zk.ret (.d .none)= .ret (.d .none)/\∃g,cS T W ie++ [.it false tl,.gone,.Z_ [],.Z_ []]=cS T W ie++ [.it false tl]++g)) _ (by rfl') ⟨rfl,rfl,[.gone,.Z_ [],.Z_ []],rfl⟩
 |cons y l=>
  unfold pickK at ho
  have nx:∀s,Vz k W.length s=match decide (0<k) with|true=>s+W.length|false=>s:=fun _=>rfl
  cases e:decide (0<k) with
  |true=>
   rw[e] at ho
   obtain rfl:some ((y::l).getD (UW 0 (y::l).length) 0)=o:=ho
   rw[e] at nx
   have hok:Wq 0 (y::l).length=true:=Px (by decide) (by simp) hlen
   refine J.os (t:=fY _) (Yq:= [.f 1187,.t 1189,.k 1189,.k 1189,.k 1189,.t 1190]) ?_
   refine(ZA hT 30).ss ?_
   let s:=(y::l).getD (UW 0 (y::l).length) 0
   let LL:List (Str×AV):=Mine.put (JY lo hi (s+W.length) k (fA W.length (some s)) (.d (.int x)) (Ra k lo p) (Pb k hi p)) "some" (.loc 5)
   exact @cast (decide (y::l= [])=false/\decide (0<k)=true/\Wq 0 (y::l).length=true/\Wq 0 (y::l).length=true/\small W.length=true/\decide (0<k)=true/\(Zk.next= .next/\(∃g,cS T W ie++ [.it false tl,.gone,.Z_ (y::l),.Z_ []]=cS T W ie++ [.it false tl]++g)/\AN 4 LL (l5 lo hi (Vz k W.length s) k (fA W.length (some s))))) _ (by rfl') ⟨decide_eq_false (by simp),e,hok,hok,YG hw,e,rfl,⟨[.gone,.Z_ (y::l),.Z_ []],rfl⟩,by rw[nx];refine⟨⟨?_,?_⟩,⟨?_,?_⟩,⟨?_,?_⟩,⟨?_,?_⟩,⟨?_,?_⟩,trivial⟩<;>rfl'⟩
  |false=>
   rw[e] at ho
   obtain rfl:some ((y::l).getD (UW (-1) (y::l).length) 0)=o:=ho
   rw[e] at nx
   have hok:Wq (-1) (y::l).length=true:=by
    unfold Wq C0
    rw[decide_eq_true (by simp;omega:(-1:Int)<(y::l).length)]
    dsimp only
    rw[decide_eq_true (by simp;omega: -((y::l).length:Int)<= -1)]
    exact YX hlen
   refine J.os (t:=fY _) (Yq:= [.f 1187,.f 1189,.k 1189,.k 1189,.k 1189,.f 1190]) ?_
   refine(ZA hT 30).ss ?_
   let s:=(y::l).getD (UW (-1) (y::l).length) 0
   let LL:List (Str×AV):=Mine.put (JY lo hi s k (fA W.length (some s)) (.d (.int x)) (Ra k lo p) (Pb k hi p)) "some" (.loc 5)
   exact @cast (decide (y::l= [])=false/\decide (0<k)=false/\Wq (-1) (y::l).length=true/\Wq (-1) (y::l).length=true/\small W.length=true/\decide (0<k)=false/\(Zk.next= .next/\(∃g,cS T W ie++ [.it false tl,.gone,.Z_ (y::l),.Z_ []]=cS T W ie++ [.it false tl]++g)/\AN 4 LL (l5 lo hi (Vz k W.length s) k (fA W.length (some s))))) _ (by rfl') ⟨decide_eq_false (by simp),e,hok,hok,YG hw,e,rfl,⟨[.gone,.Z_ (y::l),.Z_ []],rfl⟩,by rw[nx];refine⟨⟨?_,?_⟩,⟨?_,?_⟩,⟨?_,?_⟩,⟨?_,?_⟩,⟨?_,?_⟩,trivial⟩<;>rfl'⟩
theorem done_none {find:Int->Option Int}{nx:Int->Int}:∀{c:Nat}{p:Int}{l:Option Int},doneF find nx c p=false->ZZ find nx c p l=none
 |0,p,l,h=>by cases h
 |c+1,p,l,h=>by
  unfold doneF at h
  unfold ZZ
  cases e:find p with
  |none=>rfl
  |some s=>rw[e] at h;exact done_none h
theorem Pa {P:Int->Bool}{lo hi m k p s:Int}(h:Yz P lo hi m k p=some s):Ra k lo p<=s/\s+m<=Pb k hi p:=by
 unfold Yz at h
 have:=TR (JV h)
 constructor
 ·exact this.1
 ·have:=this.2.1;omega
theorem z9 {P:Int->Bool}{lo hi m k p s:Int}(hm:0<=m) (hlo:0<=lo/\lo<=50) (hhi:0<=hi/\hi<=50) (hp:0<=p/\p<=50) (h:Yz P lo hi m k p=some s):0<=Vz k m s/\Vz k m s<=50:=by
 have:=Pa h
 unfold Ra Pb at this
 unfold Vz
 cases e:decide (0<k)<;>rw[e] at this<;>dsimp only at this ⊢<;>omega
theorem NU {n:Nat}{T W:Str}{ie:Bool}{lo hi p k:Int}{P:Int->Bool}{d:Bool}{b:Option Int}(hT:ZY G T0) (hw:W.length<=100) (hlo:0<=lo/\lo<=50) (hhi:0<=hi/\hi<=50) (hp:0<=p/\p<=50) (hk: -50<=k/\k<=50)
  (hP:∀x,0<=x->Z5 G (n+2) (.Z8 (.ref 1610)) [.d (.str T),.d (.int x),.d (.str W),.d (.bool ie)] [] (.d (.bool (P x))) [])
  (hd:doneF (Yz P lo hi W.length k) (Vz k W.length) (Uy k - 0).toNat p=d) (hb:ZZ (Yz P lo hi W.length k) (Vz k W.length) (Uy k - 0).toNat p none=b):
  Wb G (n+2) pS QS (l5 lo hi p k (.d .none)) (cS T W ie) (z_ d) (Mt W.length b d) (cS T W ie):=by
 let K3:Zk->St->Prop:=Zp YA 3 (z_ d) (Mt W.length b d) (cS T W ie)
 let S:Int->Option Int->Int->Nat->St:=fun p l x c=>⟨l5 lo hi p k (fA W.length l),cS T W ie++ [.it false (ZI x c)],[]⟩
 have hsm:∀i:Int, -2000<=i/\i<=2000->Y6 i=true:=fun i hi=>fT (VY hi (by decide))
 refine WI (F:=24) (os:= [.k 0]) hT Ad (by rfl') ?_
 refine @cast ((match Y6 0 with|true=>Y6 (Uy k)|false=>false)=true/\Kw G (n+2) pS 3 (VL QS) (Wt QS) (S p none 0 (Uy k - 0).toNat) K3) _ (by rfl') ⟨?_,?_⟩
 ·rw[hsm 0 (by omega)];exact hsm _ (by unfold Uy;split<;>omega)
 refine Wo (fun c σ=>∃x p l,(0<=p/\p<=50)/\doneF (Yz P lo hi W.length k) (Vz k W.length) c p=d/\ZZ (Yz P lo hi W.length k) (Vz k W.length) c p l=b/\σ=S p l x c) ?_ (Uy k - 0).toNat ⟨0,p,none,hp,hd,hb,rfl⟩
 rintro c _ ⟨x,p,l,hp,hd,hb,rfl⟩
 have fin:∀{fl:Zk}{loc:List (Str×AV)}{g:List AO},fl=z_ d->YA 3 fl fl->AN 3 loc (Mt W.length b d)->K3 fl ⟨loc,cS T W ie++g,[]⟩:=fun{fl loc g} e h h2=>by
  subst e
  exact Zz (H':=cS T W ie) (g:=g) (by rfl') h (Pr h2)
 have mj:∀(m:Nat) (l:Option Int),(fA W.length l).sc m=true:=fun m l=>by cases l<;>rfl
 refine Qs (σ:=S p l x c) (k:=3) (by rfl') rfl ?_
 cases c with
 |zero=>
  have e1:d=true:=hd.symm
  have e2:b=l:=hb.symm
  subst e1 e2
  exact fin (g:= [.gone]) rfl trivial ⟨⟨by rfl',mj 3 _⟩,trivial⟩
 |succ c=>
  show Rg G (n+2) pS (VL QS) (.d (.int x)) ⟨l5 lo hi p k (fA W.length l),cS T W ie++ [.it false (ZI (x+1) c)],[]⟩ _ Zn
  refine(ZA hT 16).a ?_
  refine @cast (X0 G (n+2) pS (Wt QS) ⟨l5 lo hi p k (fA W.length l)++lT x,cS T W ie++ [.it false (ZI (x+1) c)],[]⟩ (Yl K3 fun Zq=>∃c',c'<c+1/\∃x p l,(0<=p/\p<=50)/\doneF (Yz P lo hi W.length k) (Vz k W.length) c' p=d/\ZZ (Yz P lo hi W.length k) (Vz k W.length) c' p l=b/\Zq=S p l x c') Zn) _ (by rfl') ?_
  have sH:(gK 4 4 && Y9 4 (cS T W ie++ [.it false (ZI (x+1) c)]))=true:=ZL (H':=cS T W ie++ [.it false (ZI (x+1) c)]) rfl (VK (by rfl'))
  have tn:∀{o},Yz P lo hi W.length k p=o->X0 G (n+2) pS (Wt QS) ⟨l5 lo hi p k (fA W.length l)++lT x,cS T W ie++ [.it false (ZI (x+1) c)],[]⟩ (mq T W ie lo hi k (ZI (x+1) c) o) Zn:=fun{o} h=>DK hT hw hlo hhi hp (fun m=>mj m l) hP h
  let HH:List AO:=cS T W ie++ [.it false (ZI (x+1) c)]
  have sH:Y9 HH.length HH=true:=(g6.mp sH).2
  have hd:(match Yz P lo hi W.length k p with|none=>false|some s=>doneF (Yz P lo hi W.length k) (Vz k W.length) c (Vz k W.length s))=d:=hd
  have hb:(match Yz P lo hi W.length k p with|none=>none|some s=>ZZ (Yz P lo hi W.length k) (Vz k W.length) c (Vz k W.length s) (some s))=b:=hb
  cases e:Yz P lo hi W.length k p with
  |none=>
   rw[e] at hd hb
   have e1:d=false:=hd.symm
   subst e1
   refine J.trim (Yq:= []) YA.rf (tn e) fun a σ q=> ?_
   obtain ⟨rfl,g,eg⟩:=q
   refine⟨.ret (.d .none),[],HH,[],⟨gi _,sH,.inl ⟨rfl,rfl⟩,trivial,g,eg⟩,fin (g:= [.it false (ZI (x+1) c)]) rfl (.inl ⟨rfl,rfl⟩) trivial⟩
  |some s=>
   rw[e] at hd hb
   refine J.trim (Yq:= []) YA.rf (tn e) fun a σ q=> ?_
   obtain ⟨rfl,⟨g,eg⟩,hle⟩:=q
   refine⟨.next,l5 lo hi (Vz k W.length s) k (fA W.length (some s)),HH,[],⟨gi _,sH,trivial,Pr hle,g,eg⟩,?_⟩
   exact⟨c,fU _,x+1,Vz k W.length s,some s,z9 (by omega) hlo hhi hp e,hd,hb,rfl⟩
theorem Gw {n:Nat}{T W:Str}{ie:Bool}{lo hi p k:Int}{P:Int->Bool}(hT:ZY G T0) (hw:W.length<=100) (hlo:0<=lo/\lo<=50) (hhi:0<=hi/\hi<=50) (hp:0<=p/\p<=50) (hk: -50<=k/\k<=50)
  (hP:∀x,0<=x->Z5 G (n+2) (.Z8 (.ref 1610)) [.d (.str T),.d (.int x),.d (.str W),.d (.bool ie)] [] (.d (.bool (P x))) []):
  Z5 G (n+3) (.Z8 (.ref 1615)) [.d (.str T),.d (.int lo),.d (.int hi),.d (.int p),.d (.str W),.d (.bool ie),.d (.int k)] [] (fA W.length (ZZ (Yz P lo hi W.length k) (Vz k W.length) (Uy k - 0).toNat p none)) []:=by
 generalize hd:doneF (Yz P lo hi W.length k) (Vz k W.length) (Uy k - 0).toNat p=d
 generalize hb:ZZ (Yz P lo hi W.length k) (Vz k W.length) (Uy k - 0).toNat p none=b
 have c:=NU hT hw hlo hhi hp hk hP hd hb
 cases d with
 |true=>
  cases b with
  |none=>exact YY (F:=20) hT (by rfl') [.cut 1184 .next (Mt W.length none true) (cS T W ie)] (fun loc=>Wb G (n+2) pS QS (l5 lo hi p k (.d .none)) (cS T W ie) .next (Mt W.length none true) (cS T W ie)/\Post loc (.d .none) [] (.d .none) ⟨loc,[]++cS T W ie,[]⟩) (fun loc=>by rfl') fun loc=>⟨c,XG rfl⟩
  |some s=>exact YY (F:=20) hT (by rfl') [.cut 1184 .next (Mt W.length (some s) true) (cS T W ie)] (fun loc=>Wb G (n+2) pS QS (l5 lo hi p k (.d .none)) (cS T W ie) .next (Mt W.length (some s) true) (cS T W ie)/\Post loc (fA W.length (some s)) [] (fA W.length (some s)) ⟨loc,[]++cS T W ie,[]⟩) (fun loc=>by rfl') fun loc=>⟨c,XG rfl⟩
 |false=>
  obtain rfl:none=b:=(done_none hd).symm.trans hb
  exact YY (F:=20) hT (by rfl') [.cut 1184 (.ret (.d .none)) [] (cS T W ie)] (fun loc=>Wb G (n+2) pS QS (l5 lo hi p k (.d .none)) (cS T W ie) (.ret (.d .none)) [] (cS T W ie)/\Post loc (.d .none) [] (.d .none) ⟨loc,[]++cS T W ie,[]⟩) (fun loc=>by rfl') fun loc=>⟨c,XG rfl⟩
theorem z8 {n:Nat}{pt:Int}{q:BB}(hT:ZY G T0) (hs:q.cs.length<=100):
  Z5 G (n+2) (.Z8 (.ref 1106)) [.loc 0] (bw pt q) (.d (.int (q.cs.length - q.ge+q.gs))) (bw pt q):=
 YY (F:=20) hT (by rfl') [.k 739] (fun loc=>small q.cs.length=true/\Post loc (.d (.int (q.cs.length - q.ge+q.gs))) (bw pt q) (.d (.int (q.cs.length - q.ge+q.gs))) ⟨loc,bw pt q,[]⟩) (fun loc=>by rfl') fun loc=>⟨YX hs,Z1 rfl⟩
theorem z7 {n:Nat}{pt p:Int}{q:BB}(hT:ZY G T0):
  Z5 G (n+1) (.Z8 (.ref 1127)) [.loc 0,.d (.int p)] (bw pt q) (.d (.int (min (max p q.bz) q.zv))) (bw (min (max p q.bz) q.zv) q):=
 YY (F:=20) hT (by rfl') [] (fun loc=>Post loc (.d (.int (min (max p q.bz) q.zv))) (bw (min (max p q.bz) q.zv) q) (.d (.int (min (max p q.bz) q.zv))) ⟨loc,bw (min (max p q.bz) q.zv) q,[]⟩) (fun loc=>by rfl') fun loc=>Z1 rfl
theorem Gv {n:Nat}{pt a b:Int}{q:BB}(hT:ZY G T0) (hs:q.cs.length<=100) (h1:1<=min a b) (h2:max a b<=q.cs.length - q.ge+q.gs+1):
  Z5 G (n+4) (.Z8 (.ref 1582)) [.loc 0,.d (.int a),.d (.int b)] (bw pt q) (.d .none) (bw (min (max pt (min a b)) (max a b)) ⟨min a b,max a b,q.tk,q.gs,q.ge,q.cs⟩):=
 YY (F:=40) hT (by rfl') [.f 1153,.k 739,.f 1153] (fun loc=>decide (min a b<1)=false/\small q.cs.length=true/\decide ((q.cs.length:Int)- q.ge+q.gs+1<max a b)=false/\Post loc (.d .none) (bw (min (max pt (min a b)) (max a b)) ⟨min a b,max a b,q.tk,q.gs,q.ge,q.cs⟩) (.d .none) ⟨loc,bw (min (max pt (min a b)) (max a b)) ⟨min a b,max a b,q.tk,q.gs,q.ge,q.cs⟩,[]⟩) (fun loc=>by rfl') fun loc=>⟨decide_eq_false (by omega),YX hs,decide_eq_false (by omega),Z1 rfl⟩
theorem DJ {n:Nat}{pt b:Int}{q:BB}(hT:ZY G T0) (hs:q.cs.length<=100) (h:b - 1<=q.gs):
  Z5 G (n+2) (.Z8 (.ref 1120)) [.loc 0,.d (.int 1),.d (.int b)] (bw pt q) (.loc 6) (bw pt q++ [.Z_ (Xr q.cs (some 0) (some (b - 1)))]):=
 YY (F:=20) hT (by rfl') [.t 748,.k 749] (fun loc=>decide (b - 1<=q.gs)=true/\small q.cs.length=true/\Post loc (.loc 6) (bw pt q++ [.Z_ (Xr q.cs (some 0) (some (b - 1)))]) (.loc 6) ⟨loc,bw pt q++ [.Z_ (Xr q.cs (some 0) (some (b - 1)))],[]⟩) (fun loc=>by rfl') fun loc=>⟨decide_eq_true h,YX hs,Z1 rfl⟩
abbrev FL (l:List AV):List AO:= [.inst 1571 [("spans",.loc 1)],.list l]
theorem um {n:Nat}(hT:ZY G T0):Z5 G (n+1) (.Z8 (.ref 1547)) [.loc 0] (FL []) (.loc 2) (FL []++ [.Z_ []]):=by
 have k:Z5 G (n+1) (.Z8 (.ref 1547)) [.loc 0] (FL []) (.loc 2) (FL []++ [.Z_ [],.list [],.gone]):=YY (F:=20) hT (by rfl') [] (fun loc=>Post loc (.loc 2) (FL []++ [.Z_ [],.list [],.gone]) (.loc 2) ⟨loc,FL []++ [.Z_ [],.list [],.gone],[]⟩) (fun loc=>by rfl') fun loc=>Z1 rfl
 exact k.anew [0,1,2] (by rfl') (by rfl') (by rfl')
theorem MW.sC {n:Nat}{Φ:Fm}{e:Expr}{loc:List (Str×AV)}{H H':List AO}{r:AV}{Yq:List Gh}(c:Zd G n Φ e ⟨loc,H,Yq⟩ (fun v σ=>v=r/\σ=⟨loc,H',[]⟩) Zn):MW G n Φ e loc H r H':=fun os=> @fun env ω fs he A h hA R=>by
 refine(c he hA R).mono (fun v h' y=> ?_) fun _ _ y=>y
 obtain ⟨a,ZH,Zw,⟨rfl,rfl⟩,l',R',r'⟩:=y
 exact⟨_,_,Zw,⟨rfl,rfl⟩,l',R',r'⟩
theorem DI {l i:Nat}{o:AO}{v:AV}{σ:St}{K:AV->St->Prop}(hi:σ.hp[i]?=some o) (hl:Vc o=true) (k:Wc l (small (Za o)) σ fun σ=>K (.d .none) {σ with hp:=σ.hp.set i (KU o v)}):xR l .Yi [.loc i,v] σ K:=Sg hi (CZ hl k)
theorem Gu {b:Bool}{L:List (Str×AV)}{H:List AO}{K:St->Prop}(h:b=true) (k:K ⟨L,H,[]⟩):Wc 0 b ⟨L,H,[.k 0]⟩ K:=⟨h,k⟩
theorem O_ {n N F:Nat}{Φ:Fm}{e:Expr}{x:Str}{px pos:Pos}{elt iter:Expr}{sc:gQ}{loc:List (Str×AV)}{H0:List AO}{os:List Gh}{S:Nat->List AO}{els:List AV}{out:Nat->AO}
  (hT:ZY G T0) (he:e= .ListComp elt [⟨.Name x px,iter,[],0⟩] sc pos) (h1:(RT sc x && (WV Φ sc && !isSet iter))=true)
  (hN:∀j,(S j).length=N) (h0:out 0= .Z_ []) (hL:∀j,Vc (out j)=true/\(j<=els.length->Za (out j)<=100))
  (big:(ev G T0 F).e n Φ iter ⟨loc,H0,os⟩ fun a σ=>VO pos.line a σ fun k ZW=>k=N/\ZW=⟨loc,S 0++ [.it false els],[]⟩)
  (step:∀j a tl,els[j]?=some a->Zd G n (WN Φ sc) elt ⟨[(x,a)],S j++ [.it false tl,out j],[]⟩ (fun v σ=>KU (out j) v=out (j+1)/\σ=⟨[(x,a)],S (j+1)++ [.it false tl,out j],[]⟩) Zn):
  MW G n Φ e loc H0 (.loc (N+1)) (S els.length++ [.gone,out els.length]):=by
 subst he
 obtain ⟨h1,h2⟩:=g6.mp h1
 obtain ⟨h2,h3⟩:=g6.mp h2
 refine MW.sC (Yq:=os) ?_
 refine Ii h1 h2 (by simpa using h3) ?_
 refine Zd.to ((ZA hT F).e big) ?_
 intro a σ h
 refine Q9.to (XC h) ?_
 rintro b ZW ⟨k,e,rfl,rfl⟩
 have g1:∀{j:Nat}{p q:AO},(S j++ [p,q])[k]?=some p:=fun{j p q}=>by rw[d9 (by rw[hN];exact gi _),hN,cQ];rfl
 have g2:∀{j:Nat}{p q:AO},(S j++ [p,q])[k+1]?=some q:=fun{j p q}=>by rw[d9 (by rw[hN];omega),hN,Nat.add_sub_cancel_left];rfl
 have s1:∀{j:Nat}{p p' q:AO},(S j++ [p,q]).set k p'=S j++ [p',q]:=fun{j p p' q}=>by rw[aS _ _ (by rw[hN];exact gi _),hN,cQ];rfl
 have s2:∀{j:Nat}{p q q':AO},(S j++ [p,q]).set (k+1) q'=S j++ [p,q']:=fun{j p q q'}=>by rw[aS _ _ (by rw[hN];omega),hN,Nat.add_sub_cancel_left];rfl
 have gl:(S 0++ [AO.it false els]).length=k+1:=by rw[gA,hN];rfl
 have ap:∀{j:Nat}{p q:AO},(S j++ [p])++ [q]=S j++ [p,q]:=fun{j p q}=>gG ..
 refine⟨k,.it false els,e,?_,rfl,fun c σ=>∃j L,j+c=els.length/\(L= []\/∃a,L= [(x,a)])/\σ=⟨L,S j++ [.it false (els.drop j),out j],[]⟩,els.length,⟨0,[],by omega,.inl rfl,by rw[h0,ap];rfl⟩,?_⟩
 ·show (S 0++ [AO.it false els])[k]?=_
  rw[d9 (by rw[hN];exact gi _),hN,cQ];rfl
 rintro c _ ⟨j,L,hj,i7,rfl⟩
 refine RX (Iw g1 rfl ?_)
 rw[gl]
 cases c with
 |zero=>
  obtain rfl:j=els.length:=hj
  rw[List.drop_length]
  exact⟨rfl,by rw[s1]⟩
 |succ c=>
  have hlt:j<els.length:=by omega
  rw[bK hlt]
  unfold EB
  dsimp only
  have Aa:Mine.put L x els[j]= [(x,els[j])]:=by
   rcases i7 with rfl|⟨i,rfl⟩
   ·rfl
   ·show (match sq x x with|true=>_|false=>_)=_
    rw[show sq x x=true from Zv.mpr rfl]
  rw[Aa,s1]
  refine Zd.to (step j els[j] _ (f9 hlt)) ?_
  rintro v _ ⟨hv,rfl⟩
  obtain ⟨w1,w2⟩:=hL j
  have ww:small (Za (out j))=true:=fT (fN (w2 (by omega)) (by decide))
  refine Ve.os (Yq:= [.k 0]) (Um (l:=0) (DI g2 w1 (Gu ww ?_)))
  dsimp only
  rw[s2,hv]
  exact⟨c,fU _,j+1,[(x,els[j])],by omega,.inr ⟨_,rfl⟩,rfl⟩
abbrev sA (c:Nat):AV:= .d (.str (Zj c))
def Zy:List Nat->AO| []=> .Z_ []|c::l=> .list ((c::l).map sA)
def Y_ (sc:List Int) (S:Str) (k:Int):Nat->List Nat|0=> []|j+1=>Y_ sc S k j++ [Xb sc (k+j) S]
theorem XH {sc:List Int}{S:Str}{k:Int}:∀{j:Nat},(Y_ sc S k j).length=j
 |0=>rfl
 |j+1=>by unfold Y_;rw[gA,XH];rfl
theorem NT:∀{l:List Nat},ZC (Zy l)=some (l.map sA)
 | []=>rfl
 |_::_=>rfl
theorem Qm {l:List Nat}:Vc (Zy l)=true:=by cases l<;>rfl
theorem Ql {l:List Nat}:Za (Zy l)=l.length:=by rw[YZ NT,gn]
theorem TN {c:Nat}:∀{l:List Nat},KU (Zy l) (sA c)=Zy (l++ [c])
 | []=>rfl
 |d::l=>congrArg AO.list (by simp)
theorem Rp:∀{l:List Nat},strsOf (l.map sA)=some (l.map Zj)
 | []=>rfl
 |c::l=>by
  show Te x8 (sA c::l.map sA)=_
  unfold Te
  rw[show Te x8 (l.map sA)=_ from Rp];rfl
theorem NS:∀{l:List Nat},M8 (l.map Zj)=l.length
 | []=>rfl
 |c::l=>by show (Zj c).length+M8 (l.map Zj)=_;rw[NS];show 1+l.length=l.length+1;omega
theorem join_eq {l:List Nat}:Txt.join "" (l.map Zj)=sW l:=by
 show dY.Str.glued (fz "") (l.map Zj)=_
 rw[StrLaws.glued_eq_join]
 induction l with
 |nil=>rfl
 |cons c l ih=>
  have e:∀{r:List Str},ao (fz "") (Zj c::r)=⟨#[c]++(ao (fz "") r).cps⟩:=fun{r}=>by
   cases r with
   |nil=>rfl
   |cons d r=>rfl
  show ao _ (Zj c::l.map Zj)=_
  rw[e,ih]
  simp
theorem Z5.sC {n:Nat}{f:AV}{as:List AV}{H H':List AO}{r:AV}(c:∀loc,∃Yq,Ve G n f as ⟨loc,H,Yq⟩ (fun v σ=>v=r/\σ=⟨loc,H',[]⟩) Zn):Z5 G n f as H r H':=fun loc os L fs ω fv vs rf rv A h hA R=>by
 obtain ⟨Yq,c⟩:=c loc
 refine(c rf rv hA R).mono (fun v h' y=> ?_) fun _ _ y=>y
 obtain ⟨a,ZH,Zw,⟨rfl,rfl⟩,l',R',r'⟩:=y
 exact⟨_,_,Zw,⟨rfl,rfl⟩,l',R',r'⟩
theorem DH {l i:Nat}{o:AO}{s:Str}{as:List AV}{ss:List Str}{σ:St}{K:AV->St->Prop}(hi:σ.hp[i]?=some o) (hl:ZC o=some as) (hs:strsOf as=some ss) (k:Wc l (small (M8 ss+ss.length*s.length)) σ fun σ=>K (.d (.str (Txt.join s ss))) σ):xR l .UQ [.d (.str s),.loc i] σ K:=Sg hi (Sg hl (Sg hs k))
theorem Gs {n i:Nat}{l:List Nat}{H:List AO}(hi:H[i]?=some (Zy l)) (hl:l.length<=100):Z5 G n (.bi .UQ) [.d (.str ""),.loc i] H (.d (.str (sW l))) H:=
 Z5.sC fun loc=>⟨[.k 0],Um (l:=0) (DH hi NT Rp (by
  rw[join_eq]
  exact Gu (fT (by rw[NS];show l.length+_*0<=_;omega)) ⟨rfl,rfl⟩))⟩
end
section
variable {G:Gm}{n:Nat}
abbrev uh (o:Obj):Addr->Part->Prop:=fun a V=>V a=some o
structure Ln (o:Obj) (l:List Int):Prop where
 d:∃vs nn,o.cls= .type "list" /\o.data= .seq vs.toArray nn/\ZE (fun _=>none) (l.map .int) vs
theorem DG {i:Nat}{o:Obj}{l:List Int}{H:List AO}(hi:H[i]?=some (.X7 (uh o))) (ho:Ln o l) (hz:l.length<=100):Z5 G n (.bi .list) [.loc i] H (.loc H.length) (H++ [.Z_ l]):=
 Z5.sC fun loc=>⟨[],fun L fs ω fv vs rf rv A h hA R=>by
  obtain rfl:fv= .type "list" :=rf
  obtain ⟨u,r,rfl,ru,hr⟩:=rv
  obtain rfl:r= []:=hr
  obtain ⟨ad,m,rest,rfl,S,_⟩:=R.at (σ:=⟨loc,H,[]⟩) hi ru
  obtain ⟨vs,nn,hcl,hdt,rs⟩:=ho.d
  have ge:h.get? ad=some o:=by
   obtain ⟨V,S,V1,V2,d,l1,l2,p,r⟩:=S
   exact S.YW _ _ (l1 _ _ p)
  have rs':Xn ω (l.map fun i=> .d (.int i)) vs:=by
   have e:l.map (fun i=>AV.d (.int i))=(l.map D.int).map AV.d:=by rw[List.map_map];rfl
   rw[e];exact ZE.Sm (ZE.mono (B:=fun _=>none) (fun _ _ e=>by cases e) rs)
  obtain ⟨m3,F0,S3,_,new⟩:=R.newL
  intro s Q' E hs k' kx
  subst hs
  refine call_list_seq (hsz:=by rw[gM,ZT.length rs',gn];exact fN hz (by decide)) ad (.inl rfl) ge hcl hdt fun h' c' hk hD=>k' _ h' s.toks ?_
  exact new _ (.Z_ l) _ vs h' rfl rs' (S3.grown hk (VU _) hD ⟨c',Z6 _ _ _⟩) ⟨rfl,rfl⟩⟩
end
section
variable {G:Gm}
theorem Gq {n F:Nat}{Φ:Fm}{e:Expr}{loc:List (Str×AV)}{H:List AO}{os:List Gh}{K:AV->St->Prop}{X:XK}(hT:ZY G T0) (Yq:List Gh) (a:AV) (ZH:St) (P:Prop) (h:P=(ev G T0 F).e n Φ e ⟨loc,H,Yq⟩ (fun x s=>x=a/\s=ZH)) (p:P) (k:K a ZH):Zd G n Φ e ⟨loc,H,os⟩ K X:=by
 refine J.imp (J.os (t:=fun env=>eval e env) ((ZA hT F).e (@cast _ _ h p))) ?_ fun _ _ f=>f.elim
 rintro x s ⟨rfl,rfl⟩
 exact k
theorem Wz {n F:Nat}{Φ:Fm}{s:List Stmt}{loc:List (Str×AV)}{H:List AO}{os:List Gh}{K:Zk->St->Prop}{X:XK}(hT:ZY G T0) (Yq:List Gh) (fl:Zk) (ZH:St) (P:Prop) (h:P=(ev G T0 F).ss n Φ s ⟨loc,H,Yq⟩ (fun x t=>x=fl/\t=ZH)) (p:P) (k:K fl ZH):X0 G n Φ s ⟨loc,H,os⟩ K X:=by
 refine J.imp (J.os (t:=fun env=>fY s env) ((ZA hT F).ss (@cast _ _ h p))) ?_ fun _ _ f=>f.elim
 rintro x s ⟨rfl,rfl⟩
 exact k
abbrev Vi:Fn:=Zc 124 none ["script"] []
abbrev pL:Fm:=KX Vi 3
abbrev DF:AO:= .tab 820 "search_by.<locals>.<lambda>"
abbrev DE:AO:= .tab 827 "re_search_by.<locals>.<lambda>"
structure Gp where
 l:List Int
 o:Obj
def XF (ie:Option AV) (xs:Gp) (sc:List Int) (k:Int):List AO:= [.X7 (uh xs.o),DF,DE,.cell ie,.cell (some (.loc 7)),.Z_ xs.l,.Z_ sc,.list [.loc 6,.d (.int k)]]
abbrev V8:List (Str×AV):= [("script",.loc 0)]
theorem Lm {n:Nat}{m:Int}{xs:Gp}{sc:List Int}{ie:Option AV}{k:Int}{B:List AO}(hT:ZY G T0) (hk:0<=k/\k<=1000) (hs:sc.length<=100) (hm:m≠0):Z5 G (n+1) (.Z8 (.ref 1589)) [.loc 7,.d (.int m)] (XF ie xs sc k++B) (.d (.int (ZN sc k m))) (XF ie xs sc (k+1)++B):=
 gE (XF ie xs sc (k+1)++B)▸(Hj hT hk hs hm).at [7,6] (by rfl') (by rfl') (by rfl')
theorem Ll {n:Nat}{S:Str}{xs:Gp}{sc:List Int}{ie:Option AV}{k:Int}{B:List AO}(hT:ZY G T0) (hk:0<=k/\k<=1000) (hs:sc.length<=100) (h0:0<S.length) (h1:S.length<=100):Z5 G (n+2) (.Z8 (.ref 1596)) [.loc 7,.d (.str S)] (XF ie xs sc k++B) (.d (.str (Zj (Xb sc k S)))) (XF ie xs sc (k+1)++B):=
 gE (XF ie xs sc (k+1)++B)▸(AM hT hk hs h0 h1).at [7,6] (by rfl') (by rfl') (by rfl')
abbrev sy:Stmt:=VZ Vi 1
def z6 (x:Expr):Expr:=Ye 16 x (.Constant .none 0 default) fun h=> @cI (fun _=>Expr) x h fun _ l _ _=>l.head?.getD (.Constant .none 0 default)
abbrev Cf:Expr:=z6 (y_ sy)
theorem z5:Cf= .ListComp (uq Cf) [⟨.Name "step" (yW (JZ Cf).target),(JZ Cf).iter,[],0⟩] (uo Cf) (yX Cf):=by rfl'
abbrev S6:Str:="aaAbB\n"
theorem DC {n:Nat}{xs:Gp}{sc:List Int}{m:Int}(hT:ZY G T0) (hs:sc.length<=100) (hm:ZN sc 0 13=m) (h:0<=m/\m<13):
  MW G (n+2) pL Cf V8 (XF none xs sc 0) (.loc 9) (XF none xs sc (1+m)++ [.gone,Zy (Y_ sc S6 1 m.toNat)]):=by
 have hl:(ZI 0 m.toNat).length=m.toNat:=Vs ..
 have d0:Z5 G (n+2) (.Z8 (.ref 1589)) [.loc 7,.d (.int 13)] (XF none xs sc 0) (.d (.int m)) (XF none xs sc 1):=hm▸Lm (ie:=none) (xs:=xs) (n:=n+1) (k:=0) (m:=13) (B:= []) hT (by decide) hs (by decide)
 have c:=O_ (G:=G) (n:=n+2) (N:=8) (F:=24) (Φ:=pL) (loc:=V8) (H0:=XF none xs sc 0) (S:=fun j=>XF none xs sc (1+j)) (els:=ZI 0 m.toNat) (out:=fun j=>Zy (Y_ sc S6 1 j)) (os:= [.con 1207 (.d (.int m)) (XF none xs sc 1),.k 1207]) hT z5 (by rfl') (fun _=>rfl) rfl
  (fun j=>⟨Qm,fun q=>by rw[Ql,XH];omega⟩)
  (@cast (Z5 G (n+2) (.Z8 (.ref 1589)) [.loc 7,.d (.int 13)] (XF none xs sc 0) (.d (.int m)) (XF none xs sc 1)/\(match Y6 0 with|true=>Y6 m|false=>false)=true/\8=8/\(⟨V8,XF none xs sc 1++ [.it false (ZI 0 (m - 0).toNat)],[]⟩:St)=⟨V8,XF none xs sc (1+(0:Nat))++ [.it false (ZI 0 m.toNat)],[]⟩) _ (by rfl') ⟨d0,fT (by omega),rfl,by rw[aM];rfl⟩)
  (fun j a tl ha=>by
   have hj:j<m.toNat:=by rw[<-hl];exact(fD.mp ha).1
   have p:=Ll (G:=G) (n:=n) (xs:=xs) (ie:=none) (k:=1+(j:Int)) (S:=S6) (B:= [.it false tl,Zy (Y_ sc S6 1 j)]) hT (by omega) hs (by decide) (by decide)
   refine Gq (F:=20) hT [.con 1207 (sA (Xb sc (1+j) S6)) (XF none xs sc (1+j+1)++ [.it false tl,Zy (Y_ sc S6 1 j)])] (sA (Xb sc (1+j) S6)) ⟨[("step",a)],XF none xs sc (1+j+1)++ [.it false tl,Zy (Y_ sc S6 1 j)],[]⟩ (Z5 G (n+2) (.Z8 (.ref 1596)) [.loc 7,.d (.str S6)] (XF none xs sc (1+j)++ [.it false tl,Zy (Y_ sc S6 1 j)]) (sA (Xb sc (1+j) S6)) (XF none xs sc (1+j+1)++ [.it false tl,Zy (Y_ sc S6 1 j)])/\sA (Xb sc (1+j) S6)=sA (Xb sc (1+j) S6)/\(⟨[("step",a)],XF none xs sc (1+j+1)++ [.it false tl,Zy (Y_ sc S6 1 j)],[]⟩:St)=⟨[("step",a)],XF none xs sc (1+j+1)++ [.it false tl,Zy (Y_ sc S6 1 j)],[]⟩) (by rfl') ⟨p,rfl,rfl⟩ ?_
   exact⟨TN,by rw[show (1:Int)+((j+1:Nat):Int)=1+j+1 by omega]⟩)
 rw[hl,show (1:Int)+(m.toNat:Int)=1+m by omega] at c
 exact c
theorem DB {tn:List Nat}{j:Nat}{c:Nat}(h:tn[j]?=some c):(cW tn).take (j+1)=(cW tn).take j++ [(c:Int)]:=by
 have:(cW tn)[j]?=some (c:Int):=by rw[d8,h];rfl
 rw[List.take_add_one,this];rfl
theorem Lk {n N F:Nat}{Φ:Fm}{e:Expr}{px pos:Pos}{elt iter:Expr}{sc:gQ}{loc:List (Str×AV)}{H:List AO}{tn:List Nat}(hT:ZY G T0) (he:e= .ListComp elt [⟨.Name "sign" px,iter,[],0⟩] sc pos) (h1:(RT sc "sign" && (WV Φ sc && !isSet iter))=true)
  (hN:H.length=N) (ht:tn.length<=100)
  (big:(ev G T0 F).e n Φ iter ⟨loc,H,[]⟩ fun a σ=>VO pos.line a σ fun k ZW=>k=N/\ZW=⟨loc,H++ [.it false (tn.map sA)],[]⟩)
  (step:∀c tl l,True=(ev G T0 F).e n (WN Φ sc) elt ⟨[("sign",sA c)],H++ [.it false tl,.Z_ l],[]⟩ fun v σ=>v= .d (.int (c:Int))/\σ=⟨[("sign",sA c)],H++ [.it false tl,.Z_ l],[]⟩):
  MW G n Φ e loc H (.loc (N+1)) (H++ [.gone,.Z_ (cW tn)]):=by
 have hl:(tn.map sA).length=tn.length:=gn ..
 have c:=O_ (G:=G) (n:=n) (N:=N) (F:=F) (Φ:=Φ) (loc:=loc) (H0:=H) (S:=fun j=>H) (els:=tn.map sA) (out:=fun j=> .Z_ ((cW tn).take j)) (os:= []) hT he h1 (fun _=>hN) (by simp)
  (fun j=>⟨rfl,fun q=>by show ((cW tn).take j).length<=100;rw[fF];omega⟩) big
  (fun j a tl ha=>by
   rw[d8] at ha
   obtain ⟨c,hc,rfl⟩:=aI.mp ha
   refine Zd.to ((ZA hT F).e (@cast _ _ (step c tl ((cW tn).take j)) trivial)) ?_
   rintro v _ ⟨rfl,rfl⟩
   exact⟨by rw[DB hc];rfl,rfl⟩)
 have e:(cW tn).take (tn.map sA).length=cW tn:=cC (by simp)
 rw[e] at c
 exact c
structure LC where
 (xs:Gp)
 (sc cs:List Int)
 (tn:List Nat)
 (tk ge:Int)
def i6 (C:LC) (pt bz zv:Int) (l:List AV) (X:List AO):List AO:= [.gone,.Z_ (cW C.tn),Ej 11 13 15 pt bz zv C.tk,Ek 12 8 (cW C.tn).length C.ge,.Z_ C.cs,.inst 1052 [("rows",.loc 14)],.dict [],.Z_ [],AL 17 20 21 26 22 23 24 25,AK 18 19,.dict [(1,.loc 10)],.Z_ [1],.dict [],.Z_ [],.dict [],.dict [],.inst 1340 [("sort",.d (.str "")),("many",.d (.int 0))],.Z_ [],.mb 1571 "spans" l]++X
def lw (C:LC) (ie:Option AV) (k pt bz zv:Int) (l:List AV) (X:List AO):List AO:=XF ie C.xs C.sc k++i6 C pt bz zv l X
abbrev Yd (T:Str) (lo hi:Int):List (Str×AV):= [("script",.loc 0),("text",.d (.str T)),("high",.d (.int hi)),("low",.d (.int lo)),("editor",.loc 16),("buffer",.loc 10)]
theorem ug {ie:Option AV}{xs:Gp}{sc:List Int}{k:Int}(h:ie=none\/∃b,ie=some (.d b)):(true && Y9 8 (XF ie xs sc k))=true:=by
 rcases h with rfl|⟨b,rfl⟩<;>rfl'
theorem NR {n:Nat}{xs:Gp}{sc:List Int}{m:Int}{K:Zk->St->Prop}(hT:ZY G T0) (hs:sc.length<=100) (hm:ZN sc 0 13=m) (h:0<=m/\m<13)
  (k:K .next ⟨[("script",.loc 0),("text",.d (.str (sW (Y_ sc S6 1 m.toNat))))],XF none xs sc (1+m),[]⟩):X0 G (n+2) pL [sy] ⟨V8,XF none xs sc 0,[]⟩ K Zn:=by
 have c:=DC (G:=G) (n:=n) (xs:=xs) hT hs hm h
 have d:Z5 G (n+2) (.bi .UQ) [.d (.str ""),.loc 9] (XF none xs sc (1+m)++ [.gone,Zy (Y_ sc S6 1 m.toNat)]) (.d (.str (sW (Y_ sc S6 1 m.toNat)))) (XF none xs sc (1+m)++ [.gone,Zy (Y_ sc S6 1 m.toNat)]):=Gs rfl (by rw[XH];omega)
 generalize hl:Y_ sc S6 1 m.toNat=tn at*
 clear hl
 refine J.trim (Yq:= [.Jj 1207 (.loc 9) (XF none xs sc (1+m)++ [.gone,Zy tn]),.con 1207 (.d (.str (sW tn))) (XF none xs sc (1+m)++ [.gone,Zy tn])]) YA.rf ((ZA hT 20).ss (@cast ((MW G (n+2) pL Cf V8 (XF none xs sc 0) (.loc 9) (XF none xs sc (1+m)++ [.gone,Zy tn]))/\Z5 G (n+2) (.bi .UQ) [.d (.str ""),.loc 9] (XF none xs sc (1+m)++ [.gone,Zy tn]) (.d (.str (sW tn))) (XF none xs sc (1+m)++ [.gone,Zy tn])/\Zk.next= .next/\(⟨[("script",.loc 0),("text",.d (.str (sW tn)))],XF none xs sc (1+m)++ [.gone,Zy tn],[]⟩:St)=⟨[("script",.loc 0),("text",.d (.str (sW tn)))],XF none xs sc (1+m)++ [.gone,Zy tn],[]⟩) ((ev G T0 20).ss (n+2) pL [sy] ⟨V8,XF none xs sc 0,_⟩ fun fl σ=>fl= .next/\σ=⟨[("script",.loc 0),("text",.d (.str (sW tn)))],XF none xs sc (1+m)++ [.gone,Zy tn],[]⟩) (by rfl') ⟨c,d,rfl,rfl⟩)) ?_
 rintro _ _ ⟨rfl,rfl⟩
 exact⟨.next,_,_,[],Zz (ug (.inl rfl)) trivial (SG (by rfl')),k⟩
def oZ (x:Expr):List Expr:=Ye 25 x ([]) fun h=> @cV (fun _=>List Expr) x h fun l _ _=>l
abbrev Ce:Expr:=z6 (Al (oZ (y_ (VZ Vi 2))))
theorem z0:Ce= .ListComp (uq Ce) [⟨.Name "sign" (yW (JZ Ce).target),(JZ Ce).iter,[],0⟩] (uo Ce) (yX Ce):=by rfl'
abbrev Gn (T:Str):List (Str×AV):= [("script",.loc 0),("text",.d (.str T))]
theorem NQ {n:Nat}{xs:Gp}{sc:List Int}{tn:List Nat}{k:Int}{K:Zk->St->Prop}(hT:ZY G T0) (ht:tn.length<=12)
  (kk:∀C:LC,C.xs=xs->C.sc=sc->C.tn=tn->Holds (cW tn) 1 ((cW tn).length+1) (cW tn).length C.cs->C.ge=C.cs.length->K .next ⟨Yd (sW tn) 0 tn.length,lw C none k 1 1 ((cW tn).length+1) [] [],[]⟩):X0 G (n+13) pL [VZ Vi 2,VZ Vi 3] ⟨Gn (sW tn),XF none xs sc k,[]⟩ K Zn:=by
 have c:MW G (n+13) pL Ce (Gn (sW tn)) (XF none xs sc k) (.loc 9) (XF none xs sc k++ [.gone,.Z_ (cW tn)]):=Lk (N:=8) (F:=10) hT z0 (by rfl') rfl (by omega)
  (@cast (8=8/\(⟨Gn (sW tn),XF none xs sc k++ [.it false (tn.map sA)],[]⟩:St)=⟨Gn (sW tn),XF none xs sc k++ [.it false (tn.map sA)],[]⟩) _ (by rfl') ⟨rfl,rfl⟩)
  (fun c tl l=>(Eq.trans (by simp) (by rfl':(AV.d (.int (c:Int))= .d (.int (c:Int))/\(⟨[("sign",sA c)],XF none xs sc k++ [.it false tl,.Z_ l],[]⟩:St)=⟨[("sign",sA c)],XF none xs sc k++ [.it false tl,.Z_ l],[]⟩)=_)))
 obtain ⟨tk,ge,cs,⟨hh,hg⟩,d⟩:=pW (G:=G) (n:=n+1) (us:=cW tn) hT (by simpa using ht)
 have kk:=kk ⟨xs,sc,cs,tn,tk,ge⟩ rfl rfl rfl hh (congrArg (fun x:Nat=>(x:Int)) hg)
 generalize hC:(⟨xs,sc,cs,tn,tk,ge⟩:LC)=C at kk
 have d:Z5 G (n+13) (.Z8 (.ref 1603)) [.loc 9] (XF none xs sc k++ [.gone,.Z_ (cW tn)]) (.loc 16) (lw C none k 1 1 ((cW tn).length+1) [] []):=hC▸d.at [9] (by rfl') (by rfl') (by rfl')
 refine Wz (F:=40) hT [.Jj 1208 (.loc 9) (XF none xs sc k++ [.gone,.Z_ (cW tn)]),.con 1208 (.loc 16) (lw C none k 1 1 ((cW tn).length+1) [] []),.k 1208] .next ⟨Yd (sW tn) 0 tn.length,lw C none k 1 1 ((cW tn).length+1) [] [],[]⟩ (MW G (n+13) pL Ce (Gn (sW tn)) (XF none xs sc k) (.loc 9) (XF none xs sc k++ [.gone,.Z_ (cW tn)])/\Z5 G (n+13) (.Z8 (.ref 1603)) [.loc 9] (XF none xs sc k++ [.gone,.Z_ (cW tn)]) (.loc 16) (lw C none k 1 1 ((cW tn).length+1) [] [])/\small tn.length=true/\Zk.next= .next/\(⟨Yd (sW tn) 0 tn.length,lw C none k 1 1 ((cW tn).length+1) [] [],[]⟩:St)=⟨Yd (sW tn) 0 tn.length,lw C none k 1 1 ((cW tn).length+1) [] [],[]⟩) (by rfl') ⟨c,d,YG (by omega),rfl,rfl⟩ ?_
 exact kk
end
section
variable {G:Gm}{C:LC}{ie:Option AV}{k pt bz zv:Int}{l:List AV}{X:List AO}
theorem Ro {k pt bz zv:Int}:lw C ie k pt bz zv l X++ []=lw C ie k pt bz zv l X:=gE _
theorem WT {n:Nat}{m:Int}(hT:ZY G T0) (hk:0<=k/\k<=1000) (hs:C.sc.length<=100) (hm:m≠0):Z5 G (n+1) (.Z8 (.ref 1589)) [.loc 7,.d (.int m)] (lw C ie k pt bz zv l X) (.d (.int (ZN C.sc k m))) (lw C ie (k+1) pt bz zv l X):=Lm hT hk hs hm
theorem DA {n:Nat}{p:Int}(hT:ZY G T0):Z5 G (n+1) (.Z8 (.ref 1127)) [.loc 10,.d (.int p)] (lw C ie k pt bz zv l X) (.d (.int (min (max p bz) zv))) (lw C ie k (min (max p bz) zv) bz zv l X):=
 (have c:Z5 G (n+1) (.Z8 (.ref 1127)) [.loc 10,.d (.int p)] (lw C ie k pt bz zv l X) (.d (.int (min (max p bz) zv))) (lw C ie k (min (max p bz) zv) bz zv l X++ []):=(z7 (pt:=pt) (q:=⟨bz,zv,C.tk,(cW C.tn).length,C.ge,C.cs⟩) (p:=p) (n:=n) hT).at [10,11,12,13,14,15] (by rfl') (by rfl') (by rfl')
  by rw[Ro] at c;exact c)
theorem JU {n:Nat}{a b:Int}(hT:ZY G T0) (hs:C.cs.length<=100) (h1:1<=min a b) (h2:max a b<=C.cs.length - C.ge+(cW C.tn).length+1):
  Z5 G (n+4) (.Z8 (.ref 1582)) [.loc 10,.d (.int a),.d (.int b)] (lw C ie k pt bz zv l X) (.d .none) (lw C ie k (min (max pt (min a b)) (max a b)) (min a b) (max a b) l X):=
 (have c:Z5 G (n+4) (.Z8 (.ref 1582)) [.loc 10,.d (.int a),.d (.int b)] (lw C ie k pt bz zv l X) (.d .none) (lw C ie k (min (max pt (min a b)) (max a b)) (min a b) (max a b) l X++ []):=(Gv (pt:=pt) (q:=⟨bz,zv,C.tk,(cW C.tn).length,C.ge,C.cs⟩) (n:=n) hT hs h1 h2).at [10,11,12,13,14,15] (by rfl') (by rfl') (by rfl')
  by rw[Ro] at c;exact c)
abbrev T' (C:LC):Str:=sW C.tn
def NP (C:LC) (k:Int):Int:=match decide (ZN C.sc k 3=2) with|true=>ZN C.sc (k+1) (C.tn.length+1)|false=>0
def Rn (C:LC) (k:Int):Int:=match decide (ZN C.sc k 3=2) with|true=>ZN C.sc (k+1) (C.tn.length+1)+ZN C.sc (k+1+1) (C.tn.length+1 - ZN C.sc (k+1) (C.tn.length+1))|false=>C.tn.length
def NO (C:LC) (k:Int):Int:=match decide (ZN C.sc k 3=2) with|true=>k+1+1+1|false=>k+1
theorem Lj (C:LC) (k:Int):0<=NP C k/\NP C k<=Rn C k/\Rn C k<=C.tn.length:=by
 unfold NP Rn
 cases decide (ZN C.sc k 3=2) with
 |false=>exact⟨Int.le_refl _,by dsimp only;omega,Int.le_refl _⟩
 |true=>
  dsimp only
  have a:=Y5 (sc:=C.sc) (k:=k+1) (many:=C.tn.length+1) (by omega)
  have b:=Y5 (sc:=C.sc) (k:=k+1+1) (many:=C.tn.length+1 - ZN C.sc (k+1) (C.tn.length+1)) (by omega)
  omega
theorem Rl {n:Nat}{K:Zk->St->Prop}(hT:ZY G T0) (hk:0<=k/\k<=900) (hs:C.sc.length<=100) (ht:C.tn.length<=12) (hcs:C.cs.length<=100) (hge:C.ge=C.cs.length)
  (kk:K .next ⟨Yd (T' C) (NP C k) (Rn C k),lw C none (NO C k) (NP C k+1) (NP C k+1) (Rn C k+1) [] [],[]⟩):X0 G (n+13) pL [VZ Vi 4] ⟨Yd (T' C) 0 C.tn.length,lw C none k 1 1 ((cW C.tn).length+1) [] [],[]⟩ K Zn:=by
 have h0:=Lj C k
 have hcl:(cW C.tn).length=C.tn.length:=by simp
 have d0:=WT (G:=G) (C:=C) (ie:=none) (k:=k) (pt:=1) (bz:=1) (zv:=((cW C.tn).length+1)) (l:= []) (X:= []) (n:=n+12) (m:=3) hT (by omega) hs (by decide)
 unfold NP Rn NO at kk
 unfold NP Rn at h0
 revert kk
 cases e:decide (ZN C.sc k 3=2) with
 |false=>
  intro kk
  rw[e] at h0
  refine Wz (F:=20) hT [.con 1210 (.d (.int (ZN C.sc k 3))) (lw C none (k+1) 1 1 ((cW C.tn).length+1) [] []),.f 1210] .next ⟨Yd (T' C) 0 C.tn.length,lw C none (k+1) 1 1 ((cW C.tn).length+1) [] [],[]⟩ (Z5 G (n+13) (.Z8 (.ref 1589)) [.loc 7,.d (.int 3)] (lw C none k 1 1 ((cW C.tn).length+1) [] []) (.d (.int (ZN C.sc k 3))) (lw C none (k+1) 1 1 ((cW C.tn).length+1) [] [])/\decide (ZN C.sc k 3=2)=false/\Zk.next= .next/\(⟨Yd (T' C) 0 C.tn.length,lw C none (k+1) 1 1 ((cW C.tn).length+1) [] [],[]⟩:St)=⟨Yd (T' C) 0 C.tn.length,lw C none (k+1) 1 1 ((cW C.tn).length+1) [] [],[]⟩) (by rfl') ⟨d0,e,rfl,rfl⟩ ?_
  rw[hcl];exact kk
 |true=>
  intro kk
  rw[e] at h0
  have h0:0<=ZN C.sc (k+1) (C.tn.length+1)/\ZN C.sc (k+1) (C.tn.length+1)<=_/\_:=h0
  have hr:=Y5 (sc:=C.sc) (k:=k+1) (many:=C.tn.length+1) (by omega)
  have d1:=WT (G:=G) (C:=C) (ie:=none) (k:=k+1) (pt:=1) (bz:=1) (zv:=((cW C.tn).length+1)) (l:= []) (X:= []) (n:=n+12) (m:=C.tn.length+1) hT (by omega) hs (by omega)
  have d2:=WT (G:=G) (C:=C) (ie:=none) (k:=k+1+1) (pt:=1) (bz:=1) (zv:=((cW C.tn).length+1)) (l:= []) (X:= []) (n:=n+12) (m:=C.tn.length+1 - ZN C.sc (k+1) (C.tn.length+1)) hT (by omega) hs (by omega)
  have kk:K .next ⟨Yd (T' C) (ZN C.sc (k+1) (C.tn.length+1)) (ZN C.sc (k+1) (C.tn.length+1)+ZN C.sc (k+1+1) (C.tn.length+1 - ZN C.sc (k+1) (C.tn.length+1))),lw C none (k+1+1+1) (ZN C.sc (k+1) (C.tn.length+1)+1) (ZN C.sc (k+1) (C.tn.length+1)+1) (ZN C.sc (k+1) (C.tn.length+1)+ZN C.sc (k+1+1) (C.tn.length+1 - ZN C.sc (k+1) (C.tn.length+1))+1) [] [],[]⟩:=kk
  have h0:0<=ZN C.sc (k+1) (C.tn.length+1)/\ZN C.sc (k+1) (C.tn.length+1)<=ZN C.sc (k+1) (C.tn.length+1)+ZN C.sc (k+1+1) (C.tn.length+1 - ZN C.sc (k+1) (C.tn.length+1))/\ZN C.sc (k+1) (C.tn.length+1)+ZN C.sc (k+1+1) (C.tn.length+1 - ZN C.sc (k+1) (C.tn.length+1))<=C.tn.length:=h0
  revert d1 d2 kk h0 hr
  generalize ZN C.sc (k+1) (C.tn.length+1)=a
  generalize ZN C.sc (k+1+1) (C.tn.length+1 - a)=b
  intro hr d1 d2 kk h0
  have d3:=JU (G:=G) (C:=C) (ie:=none) (k:=k+1+1+1) (pt:=1) (bz:=1) (zv:=((cW C.tn).length+1)) (l:= []) (X:= []) (n:=n+9) (a:=a+1) (b:=a+b+1) hT hcs (by omega) (by omega)
  have le:a+1<=a+b+1:=by have:=h0.2.1;omega
  have m1:min (a+1) (a+b+1)=a+1:=bG le
  have m2:max (a+1) (a+b+1)=a+b+1:=bF le
  have m3:min (max 1 (a+1)) (a+b+1)=a+1:=by rw[bF (by have:=h0.1;omega),m1]
  rw[m1,m2,m3] at d3
  refine Wz (F:=20) hT [.con 1210 (.d (.int (ZN C.sc k 3))) (lw C none (k+1) 1 1 ((cW C.tn).length+1) [] []),.t 1210,.k 1211,.con 1211 (.d (.int a)) (lw C none (k+1+1) 1 1 ((cW C.tn).length+1) [] []),.k 1212,.con 1212 (.d (.int b)) (lw C none (k+1+1+1) 1 1 ((cW C.tn).length+1) [] []),.con 1213 (.d .none) (lw C none (k+1+1+1) (a+1) (a+1) (a+b+1) [] [])] .next ⟨Yd (T' C) a (a+b),lw C none (k+1+1+1) (a+1) (a+1) (a+b+1) [] [],[]⟩ (Z5 G (n+13) (.Z8 (.ref 1589)) [.loc 7,.d (.int 3)] (lw C none k 1 1 ((cW C.tn).length+1) [] []) (.d (.int (ZN C.sc k 3))) (lw C none (k+1) 1 1 ((cW C.tn).length+1) [] [])/\decide (ZN C.sc k 3=2)=true/\
   small C.tn.length=true/\Z5 G (n+13) (.Z8 (.ref 1589)) [.loc 7,.d (.int (C.tn.length+1))] (lw C none (k+1) 1 1 ((cW C.tn).length+1) [] []) (.d (.int a)) (lw C none (k+1+1) 1 1 ((cW C.tn).length+1) [] [])/\
   small C.tn.length=true/\Z5 G (n+13) (.Z8 (.ref 1589)) [.loc 7,.d (.int (C.tn.length+1 - a))] (lw C none (k+1+1) 1 1 ((cW C.tn).length+1) [] []) (.d (.int b)) (lw C none (k+1+1+1) 1 1 ((cW C.tn).length+1) [] [])/\
   Z5 G (n+13) (.Z8 (.ref 1582)) [.loc 10,.d (.int (a+1)),.d (.int (a+b+1))] (lw C none (k+1+1+1) 1 1 ((cW C.tn).length+1) [] []) (.d .none) (lw C none (k+1+1+1) (a+1) (a+1) (a+b+1) [] [])/\
   Zk.next= .next/\(⟨Yd (T' C) a (a+b),lw C none (k+1+1+1) (a+1) (a+1) (a+b+1) [] [],[]⟩:St)=⟨Yd (T' C) a (a+b),lw C none (k+1+1+1) (a+1) (a+1) (a+b+1) [] [],[]⟩) (by rfl') ⟨d0,e,YG (by omega),d1,YG (by omega),d2,d3,rfl,rfl⟩ ?_
  exact kk
end
def V6 (ie:Bool) (tn wn:List Nat) (x:Int):Bool:=match decide ((tn.length:Int)<x+wn.length) with|true=>false|false=>S5 ie (gH wn (tn.drop x.toNat))
def NN (ie:Bool) (tn wn:List Nat) (lo hi p k:Int):Option Int:=ZZ (Yz (V6 ie tn wn) lo hi wn.length k) (Vz k wn.length) (Uy k - 0).toNat p none
def allB (g:Nat->Int->Bool):List Nat->Int->Bool
 | [],_=>true
 |c::r,p=>match g c p with|true=>allB g r (p+1)|false=>false
theorem NL {f:Int->Int}:∀{wn:List Nat}{p:Int},Zo f p (cW wn)=allB (fun c p=>decide (Xp (f p)=Xp c)) wn p
 | [],_=>rfl
 |c::r,p=>by
  show (match decide (Xp (f p)=Xp (cF c)) with|true=>Zo f (p+1) (cW r)|false=>false)=(match decide (Xp (f p)=Xp (cF c)) with|true=>_|false=>false)
  rw[NL]
theorem Qk {f:Int->Int}{lim:Int}:∀{wn:List Nat}{p:Int},ZG f lim ((cW wn).map Yg) p=allB (fun c p=>Yj f lim (Yg c) p) wn p
 | [],_=>rfl
 |c::r,p=>by
  show (match Yj f lim (Yg (cF c)) p with|true=>ZG f lim ((cW r).map Yg) (p+1)|false=>false)=(match Yj f lim (Yg (cF c)) p with|true=>_|false=>false)
  rw[Qk]
theorem O9 {ie:Bool}{tn:List Nat}{g:Nat->Int->Bool}:∀{wn:List Nat}{s:Nat},s+wn.length<=tn.length->(∀c∈wn,∀(q t:Nat),s<=q->q<s+wn.length->tn[q]?=some t->g c ((q:Int)+1)=Pc ie c t)->
  allB g wn ((s:Int)+1)=S5 ie (gH wn (tn.drop s))
 | [],s,_,_=>by simp[allB,S5]
 |c::r,s,h,hg=>by
  have hs:s<tn.length:=by simp at h;omega
  have e:=hg c (.head _) s tn[s] (gi _) (by simp) (f9 hs)
  rw[bK hs]
  show (match g c ((s:Int)+1) with|true=>allB g r ((s:Int)+1+1)|false=>false)=(match Pc ie c tn[s] with|true=>S5 ie (gH r (tn.drop (s+1)))|false=>false)
  rw[e]
  have ih:=O9 (ie:=ie) (tn:=tn) (g:=g) (wn:=r) (s:=s+1) (by simp at h ⊢;omega) (fun c hc q t h1 h2=>hg c (.tail _ hc) q t (by omega) (by simp at h2 ⊢;omega))
  rw[show ((s+1:Nat):Int)+1=(s:Int)+1+1 by omega] at ih
  rw[ih]
theorem sh {q:Int}{n:Nat}:q+((n+1:Nat):Int)=q+1+n:=by rw[Int.natCast_succ,ak,Int.add_assoc]
theorem Cd {q:Int}{n:Nat}:q<q+((n+1:Nat):Int):=Int.lt_add_of_pos_right q (Int.ofNat_lt.mpr (Nat.succ_pos n))
theorem Dz {Q:Int->Bool}{j:Nat}:∀{q:Int},(∀s,q<=s->s<q+j->Q (s+1)=false)->Zf Q (q+1) j=none:=by
 induction j with
 |zero=>intro q h;rfl
 |succ j ih=>
  intro q h
  show (match Q (q+1) with|true=>some (q+1)|false=>Zf Q (q+1+1) j)=none
  rw[h q (Int.le_refl _) Cd]
  exact ih fun s a b=>h s (cH a) (sh▸b)
theorem up_eq {Q P:Int->Bool}{n j:Nat}:∀{q:Int},(∀s,q<=s->s<q+n->Q (s+1)=P s)->(∀s,q+n<=s->s<q+n+j->Q (s+1)=false)->Zf Q (q+1) (n+j)=((YL P q n).head?).map (·+1):=by
 induction n with
 |zero=>
  intro q h h2
  rw[bO]
  rw[show ((0:Nat):Int)=0 from rfl,cj] at h2
  exact Dz h2
 |succ n ih=>
  intro q h h2
  rw[Nat.succ_add]
  rw[sh] at h h2
  show (match Q (q+1) with|true=>some (q+1)|false=>Zf Q (q+1+1) (n+j))=((match P q with|true=>q::YL P (q+1) n|false=>YL P (q+1) n).head?).map (·+1)
  rw[h q (Int.le_refl _) (sh▸Cd)]
  cases P q with
  |true=>rfl
  |false=>exact ih (fun s a=>h s (cH a)) h2
theorem Rk {P:Int->Bool}:∀{n:Nat}{a:Int},YL P a (n+1)=YL P a n++(match P (a+n) with|true=> [a+n]|false=> [])
 |0,a=>by
  rw[show a+((0:Nat):Int)=a by omega]
  show (match P a with|true=>a:: []|false=> [])= []++_
  cases P a<;>rfl
 |n+1,a=>by
  have ih:=Rk (P:=P) (n:=n) (a:=a+1)
  rw[show a+1+(n:Int)=a+((n+1:Nat):Int) by omega] at ih
  show (match P a with|true=>a::YL P (a+1) (n+1)|false=>YL P (a+1) (n+1))=(match P a with|true=>a::YL P (a+1) n|false=>YL P (a+1) n)++_
  rw[ih]
  cases P a<;>rfl
theorem Gl {Q P:Int->Bool}{a:Int}:∀{n:Nat},(∀s,a<=s->s<a+n->Q (s+1)=P s)->Zi Q (a+n) n=((YL P a n).getLast?).map (·+1)
 |0,_=>rfl
 |n+1,h=>by
  have e:Q (a+n+1)=P (a+n):=h _ (by omega) (by omega)
  rw[show a+((n+1:Nat):Int)=a+n+1 by omega,Rk]
  unfold Zi
  rw[e]
  cases P (a+n) with
  |true=>simp
  |false=>
   rw[show a+(n:Int)+1 - 1=a+n by omega]
   simpa using Gl (n:=n) fun s p q=>h s p (by omega)
theorem O8 {Q:Int->Bool}{b:Int}{n:Nat}:∀{j:Nat},(∀s,b<s->s<=b+j->Q s=false)->Zi Q (b+j) (n+j)=Zi Q b n
 |0,_=>by simp
 |j+1,h=>by
  have e:Q (b+((j+1:Nat):Int))=false:=h _ (by omega) (by omega)
  have st:∀{x:Int}{m:Nat},Zi Q x (m+1)=(match Q x with|true=>some x|false=>Zi Q (x - 1) m):=rfl
  rw[show n+(j+1)=n+j+1 by omega,st,e]
  dsimp only
  rw[show b+((j+1:Nat):Int)- 1=b+j by omega]
  exact O8 fun s p q=>h s p (by omega)
theorem Li {k:Int}(hk:0<k) {l:List Int}:pickK k l=l.head?:=by
 cases l with
 |nil=>rfl
 |cons x l=>
  unfold pickK
  rw[decide_eq_true hk]
  rfl
theorem Lh {k:Int}(hk:¬0<k) {l:List Int}:pickK k l=l.getLast?:=by
 cases l with
 |nil=>rfl
 |cons x l=>
  unfold pickK
  rw[decide_eq_false hk]
  dsimp only
  rw[show (x::l).length=l.length+1 from rfl,Lo,List.getLast?_eq_getElem?,fG]
  show some (((x::l)[l.length]?).getD 0)=(x::l)[l.length]?
  rw[f9 (by simp)];rfl
theorem Wy {F1 F2:Int->Option Int}{N1 N2:Int->Int}{I:Int->Prop}(h1:∀q,I q->F1 (q+1)=(F2 q).map (·+1)) (h2:∀q s,I q->F2 q=some s->N1 (s+1)=N2 s+1/\I (N2 s)):
  ∀{n:Nat}{q:Int}{l:Option Int},I q->ZZ F1 N1 n (q+1) (l.map (·+1))=(ZZ F2 N2 n q l).map (·+1)
 |0,q,l,_=>rfl
 |n+1,q,l,hq=>by
  unfold ZZ
  rw[h1 q hq]
  cases e:F2 q with
  |none=>rfl
  |some s=>
   have:=h2 q s hq e
   show ZZ F1 N1 n (N1 (s+1)) ((some s).map (·+1))=(ZZ F2 N2 n (N2 s) (some s)).map (·+1)
   rw[this.1]
   exact Wy h1 h2 this.2
theorem Gk {c t:Nat}(hc:c=97\/c=65\/c=98) (ht:t=97\/t=65\/t=98\/t=66\/t=10):decide (Xp (t:Int)=Xp (c:Int))=Pc false c t:=by
 rcases hc with rfl|rfl|rfl<;>rcases ht with rfl|rfl|rfl|rfl|rfl<;>rfl'
theorem Dy {c t:Nat}(hc:c=97\/c=65\/c=98\/c=46) (ht:t=97\/t=65\/t=98\/t=66\/t=10):takes (Yg (c:Int)) (t:Int)=Pc true c t:=by
 rcases hc with rfl|rfl|rfl|rfl<;>rcases ht with rfl|rfl|rfl|rfl|rfl<;>rfl'
theorem Cc {tn:List Nat}{lo hi:Int}{q t:Nat}(h1:lo<=q) (h2:(q:Int)<hi) (ht:tn[q]?=some t):ZV (cW tn) (lo+1) (hi+1) ((q:Int)+1)=t:=by
 unfold ZV
 rw[if_neg (by omega),show ((q:Int)+1 - 1).toNat=q by omega,fG,d8,ht]
 rfl
def Wx (tn:List Nat):Prop:=∀t∈tn,t=97\/t=65\/t=98\/t=66\/t=10
def Ww (ie:Bool) (wn:List Nat):Prop:=∀c∈wn,(c=97\/c=65\/c=98)\/(ie=true/\c=46)
theorem Lg {ie:Bool}{tn wn:List Nat}{s:Nat}(h:s+wn.length<=tn.length):V6 ie tn wn s=S5 ie (gH wn (tn.drop s)):=by
 unfold V6
 rw[decide_eq_false (by omega)]
 rfl
theorem Gj {tn wn:List Nat}{lo hi:Int}{s:Nat}(hT:Wx tn) (hW:Ww false wn) (h1:lo<=s) (h2:(s:Int)+wn.length<=hi) (h3:hi<=tn.length):Zo (ZV (cW tn) (lo+1) (hi+1)) ((s:Int)+1) (cW wn)=V6 false tn wn s:=by
 rw[NL,Lg (by omega)]
 refine O9 (by omega) fun c hc q t a b e=> ?_
 rw[Cc (by omega) (by omega) e]
 refine Gk ?_ (hT t (ay e))
 rcases hW c hc with h|h
 ·exact h
 ·cases h.1
theorem JT {tn wn:List Nat}{lo hi lim:Int}{s:Nat}(hT:Wx tn) (hW:Ww true wn) (h1:lo<=s) (h2:(s:Int)+wn.length<=hi) (h3:hi<=tn.length) (h4:(s:Int)+wn.length+1<=lim):ZG (ZV (cW tn) (lo+1) (hi+1)) lim ((cW wn).map Yg) ((s:Int)+1)=V6 true tn wn s:=by
 rw[Qk,Lg (by omega)]
 refine O9 (by omega) fun c hc q t a b e=> ?_
 show (match decide ((q:Int)+1<lim) with|true=>takes (Yg (c:Int)) (ZV (cW tn) (lo+1) (hi+1) ((q:Int)+1))|false=>false)=_
 rw[decide_eq_true (by omega),Cc (by omega) (by omega) e]
 refine Dy ?_ (hT t (ay e))
 rcases hW c hc with h|h
 ·omega
 ·omega
section
open PySem.Builtin PySem.Builtin.ObjectAttr
open PySem.Sem (wp)
section
variable {prog:gP}{w:g8}{A:gY}{E:h_->g7->Prop}{h:Heap}{g:Array GenState}{d:Drawn}{t:Nat}{os:gq}{a:Addr}{o:Obj}{vs:Array h_}
 {nm q:Str}{C N dx:Addr}{bs bmB:List h_}{hdct:Bool}{sn:List Str}{sub:List h_}{ab:Bool}{col:Option Bool}{dd:Option Addr}{k0 k1 k2 k3 k5:Option h_}{B newId:String}{mN mA:Str->Option h_}{name:Str}{v:h_}
theorem Gi {tk:Tok}{Q:Fin->g7->Prop}(FB:ExcAttrBase B bmB) (hC:h.get? C=some (dF nm q C N bs bmB true sn sub ab col dd k0 k1 k2 k3 k5 newId)) (hN:h.Ns N mN)
  (hna:mN name=none) (hB:cD (.type B) name=pure none) (hx:h.get? a=some o) (hc:o.cls= .ref C) (hd:o.data= .fields vs) (hdi:o.dict=some dx) (hns:h.Ns dx mA) (hv:mA name=some v) (hq:Q (.done (.ret v)) ⟨h,g,d,t,os⟩):
  gW (gO prog w) A (dY.«object.__getattribute__» ⟨[.ref a,.str name tk],[]⟩) Q E ⟨h,g,d,t,os⟩:=by
 unfold dY.«object.__getattribute__»
 repeat (any_goals (first|assumption|(with_reducible refine dP hx ?_;rw[hc])|(with_reducible refine bI hC hN FB.mro hB ?_;rw[hna])|wp_step))
 rw[hd]
 unfold instanceDict
 repeat (first|(with_reducible refine dP hx ?_;rw[hc])|with_reducible refine dP hC ?_|wp_step)
 rw[hdi]
 repeat (first|(with_reducible refine wpAny_nsGet hns ?_;rw[hv])|wp_step)
 exact hq
theorem Gg {M:Model}{nameV:h_}{Q:Unit->g7->Prop}(FB:ExcAttrBase B bmB) (hC:h.get? C=some (dF nm q C N bs bmB true sn sub ab col dd k0 k1 k2 k3 k5 newId))
  (hx:h.get? a=some o) (hc:o.cls= .ref C) (hq:Q () ⟨h,g,d,t,os⟩):gW M A (checkBuiltinCall "BaseException.__getattribute__" ⟨[.ref a,nameV],[]⟩) Q E ⟨h,g,d,t,os⟩:=by
 have hk:builtinKind "BaseException.__getattribute__" =some .slot:=by decide+kernel
 have hsplit:splitId "BaseException.__getattribute__" =some ("BaseException","__getattribute__"):=by decide+kernel
 have zd:(eU C::bmB).contains (.type "BaseException")=true:=by rw[List.contains_cons,FB.hasBase];rfl
 have ha:=F.args_bexc_ga (.ref a) nameV
 simp only[checkBuiltinCall,hk,hsplit]
 refine g_ ?_
 ·unfold isInstance
  repeat (first|(with_reducible refine dP hx ?_;rw[hc])|(with_reducible refine wpAny_isSubtype_exc hC ?_;rw[zd])|wp_step)
  exact hq
theorem uf {tk:Tok}{fill expr:Bool}{Q:h_->g7->Prop}(FB:ExcAttrBase B bmB) (hC:h.get? C=some (dF nm q C N bs bmB true sn sub ab col dd k0 k1 k2 k3 k5 newId)) (hN:h.Ns N mN)
  (hng:mN "__getattribute__" =none) (hnh:mN "__getattr__" =none) (hna:mN name=none) (hB:cD (.type B) name=pure none) (hx:h.get? a=some o) (hc:o.cls= .ref C) (hd:o.data= .fields vs) (hdi:o.dict=some dx) (hns:h.Ns dx mA) (hv:mA name=some v) (oY:handedOut v=pure v) (hq:Q v ⟨h,g,d,t,os⟩):
  gW (gO prog w) A (getAttrBy (.ref a) (.str name tk) fill expr) Q E ⟨h,g,d,t,os⟩:=by
 have f3:=FB.ga.bind (.ref a)
 have iA:(expr && onTheHeap (bH "BaseException.__getattribute__"))=false:=by cases expr<;>rfl
 have iZ:(bH "BaseException.__getattribute__" ==bH "object.__getattribute__")=false:=by decide+kernel
 have iz:(onTheHeap (eU C) && bH "BaseException.__getattribute__" ==bH "object.__getattribute__")=false:=by rw[iZ];rfl
 repeat (any_goals (first|assumption|(with_reducible refine dP hx ?_;rw[hc])|(with_reducible refine bI hC hN FB.mro FB.ga.lookup ?_;rw[hng])|(with_reducible refine bI hC hN FB.mro FB.noGetattr ?_;rw[hnh])|wp_step))
 refine codeAny_call_builtin FB.ga.plain F.entry_bexc_ga (Gg FB hC hx hc (Gi FB hC hN hna hB hx hc hd hdi hns hv ?_))
 repeat (any_goals (first|assumption|(rw[oY])|wp_step))
theorem Dw {expr:Bool}{Q:h_->g7->Prop}(FB:ExcAttrBase B bmB) (hC:h.get? C=some (dF nm q C N bs bmB true sn sub ab col dd k0 k1 k2 k3 k5 newId)) (hN:h.Ns N mN)
  (hng:mN "__getattribute__" =none) (hnh:mN "__getattr__" =none) (hna:mN name=none) (hB:cD (.type B) name=pure none) (hx:h.get? a=some o) (hc:o.cls= .ref C) (hd:o.data= .fields vs) (hdi:o.dict=some dx) (hns:h.Ns dx mA) (hv:mA name=some v) (oY:handedOut v=pure v) (hq:Q v ⟨h,g,d,t+1,os⟩):
  gW (gO prog w) A (getAttr (.ref a) name expr) Q E ⟨h,g,d,t,os⟩:=by
 unfold getAttr
 repeat (any_goals (first|assumption|with_reducible apply uf FB hC hN hng hnh hna hB hx hc hd hdi hns hv oY|wp_step))
end
end
section
variable {G:Gm}{n:Nat}{Φ:Fm}{σ ZH:St}{X:XK}
theorem Gf {hS h:Heap}{B:Part}{L e:Addr}{m:Str->Option h_}{ρ:List Addr}{Hx g:List AO}{P:Addr->Part->Prop}{fs:Frs}(hlen:(Hx++g).length<=ρ.length) (hs:Y9 Hx.length Hx=true)
  (S:SS hS B L m (P e::frames ((parts B ρ (ρ.take (Hx++g).length) (Hx++g)).map .hid++fs)) h):SS hS B L m (parts B (ρ.take Hx.length) (ρ.take Hx.length) Hx++frames fs) h:=by
 rw[gA] at hlen
 refine S.weak.YT fun V hV=> ?_
 rw[Xc,gA,List.take_add,Yr (by rw[fF];omega),gG] at hV
 exact TH.parts Tr.sc (TH.sc hs) (Z0.RM (fun V x=>Z0.drop x) hV)
theorem NK {A:gY}{hS:Heap}{B:Part}{L e C:Addr}{m:Str->Option h_}{ms:Str->Option h_}{x:h_}{cs:List (Part->Prop)}{M:Model}{s:g7}{Q:Unit->g7->Prop}{E:h_->g7->Prop}(S:SS hS B L m (QU C (some x) ms e::cs) s.heap)
  (k:∀h',SS hS B L m (QU C (some .none) ms e::cs) h'->Q () {s with heap:=h'}):gW M A (cu (.ref e) none) Q E s:=by
 obtain ⟨V,SV,V1,V2,dj,l1,l2,⟨oe,vs,d,od,es,ep,he,hc,hdi,hda,hsz,hd,FQ,Aq,hms,_|⟨T,oT,ts,J7,h1,hT,Nv,h3⟩⟩,r⟩:=id S
 have hge:=SV.YW _ _ (l1 _ _ he)
 have oW:=SV.YW _ _ (l1 _ _ hT)
 have GL:3<ts.size:=(au.mp h3).1
 have other:∀b,b≠T->(s.heap.update T (dQ (·.setIfInBounds 3 ((none:Option Addr).elim fO fun f=>rawInt f)))).get? b=s.heap.get? b:=fun b hb=>dR _ _ (ff hb)
 unfold cu
 refine g_ (fQ hge hda h1 ?_)
 rw[if_pos (show (eU T !=fO)=true from by simp)]
 refine aR oW Nv GL (k _ (S.turn fun W hW hs1=> ?_))
 obtain ⟨mO,vs',d',od',es',JK,he',hc',DS,Mv,hsz',hd',zZ,oV,oU,_|⟨T',za,ts',iY,x_,Cw,iW,h3'⟩⟩:=hW
 have q1:=hs1 _ _ he';rw[hge] at q1;cases q1
 rw[hda] at Mv;cases Mv
 rw[h1] at x_;cases x_
 have q2:=hs1 _ _ Cw;rw[oW] at q2;cases q2
 have oS:d'≠T:=fun z=>by rw[z,Cw] at hd';cases hd';rw[Nv] at zZ;cases zZ
 have gT:=dm (dQ (·.setIfInBounds 3 ((none:Option Addr).elim fO fun f=>rawInt f))) oW (aQ (cy Nv _))
 refine⟨upd W T (some (dQ (·.setIfInBounds 3 ((none:Option Addr).elim fO fun f=>rawInt f)) oT)),⟨oe,vs,d',od',es',JK,?_,hc,DS,hda,hsz,?_,zZ,oV,oU,.some _ _ _ J7 h1 (Z6 _ _ _) (cy Nv _) (by simp[GL])⟩,Yn gT fun a o z ea=>(other a z).trans (hs1 _ _ ea),fun a hn=> ?_,fun b ob eb hb=>(other b fun z=>by rw[z,Cw] at eb;cases eb).trans hb⟩
 ·rw[Z2 (ff J7)];exact he'
 ·rw[Z2 oS];exact hd'
 ·obtain ⟨o,hn⟩:=some_of hn
  exact Yn (C:=fun a _=>W a≠none\/_) (.inl (N_ Cw)) (fun a o _ q=> .inl (N_ q)) a o hn
theorem SS.store {hS h h':Heap}{B:Part}{L:Addr}{m m':Str->Option h_}{cs:List (Part->Prop)}(S:SS hS B L m cs h) (hn:h'.Ns L m') (hs:dw L h h'):SS hS B L m' cs h':=let ⟨V,S,p⟩:=S;⟨V,S.store hn hs,p⟩
theorem ue {C N fI:Addr}{sym cn nm:Str}{body:List Stmt}{np p1 p2 p3 hpos pos:Pos}{Hx:List AO}{K:Zk->St->Prop}(xo:SE G C N fI) (iV:P8 G cn (.Z8 (.ref C)))
  (x:X0 G n Φ body σ (fun _ _=>False) (XP C sym Hx)) (hsc:Y9 Hx.length Hx=true) (hle:gK σ.hp.length Hx.length=true) (hcn:lk Φ.sc.names cn=some .globalImplicit) (hnm:lk Φ.sc.names nm=some .local) (hd1:sq cn ("__debug__" :Str)=false) (hd2:sq nm ("__debug__" :Str)=false)
  (k:K (.ret (.d (.str sym))) ⟨[],Hx,[]⟩) {env:Env}{ω:Wd}{fs:Frs}(he:Zb Φ env ω.ρ) {A:gY}{h:Heap}(hA:Wu n A env.locals fs) {outer:List Env}(hfr:A.frames=some (env::outer)) (hf:env.frame=some env.locals) (R:Rel G env.locals ω σ fs h):
  W G.prog G.w A (exec (.Try body [.ExceptHandler (some (.Name cn np)) (some nm) [.Return (some (.Attribute (.Name nm p1) "symbol" p2)) p3] hpos] [] [] pos) env) (PG G RF env.locals fs ω K) (PG G RV env.locals fs ω X) h:=fun s Q' E hs k' kx=>by
 subst hs
 refine wpAny_Try_except (x he hA R s _ _ rfl (fun _ _ _ y=>y.no) fun e ZU tk y=> ?_)
 obtain ⟨a,⟨Am,GG,uN⟩,ZR,⟨g,fl,rfl,eh,hfl⟩,ZX,ZK,rv⟩:=y
 have eh:GG=(Hx++g)++ [.X7 (WM C sym fl)]:=eh
 subst eh
 obtain ⟨ad,ha,rfl⟩:=rv
 refine N7 (s:={s with heap:=ZU,toks:=tk}) hA hfr hf ZK ha hfl fun ZO Zg=> ?_
 obtain ⟨m,lm,S,_⟩:=Zg.exc ha
 have Dv:ZR.ρ.length=(Hx++g).length+1:=by
  obtain ⟨_,_,RR⟩:=Zg
  have:=RR.len
  rw[gA] at this;exact this
 obtain ⟨V,SV,V1,V2,dj,l1,l2,⟨ms,tk',DZ,hex⟩,r⟩:=id S
 have MX:SS G.hS ZR.B env.locals m (QU C (some .none) ms ad::frames ((parts ZR.B ZR.ρ (ZR.ρ.take (Hx++g).length) (Hx++g)).map .hid++fs)) ZO:=⟨V,SV,V1,V2,dj,l1,l2,hex,r⟩
 obtain ⟨oR,iU,hgr⟩:=iV
 have hrep:=(hgr _ MX.yo)
 obtain rfl:oR= .ref C:=hrep.1
 obtain ⟨iy,qn,bs,sn,sub,ab,col,dd,k0,k1,k2,k3,k5,hC⟩:=xo.cls
 obtain ⟨oN,DU,uS,hN,uR,hkN,_,_,hng,hnh,pO,_⟩:=xo.ns
 have iT:∀{h},SS G.hS ZR.B env.locals m (QU C (some .none) ms ad::frames ((parts ZR.B ZR.ρ (ZR.ρ.take (Hx++g).length) (Hx++g)).map .hid++fs)) h->h.get? C=_:=fun S=>G.Z.k.keeps S.Z8 _ _ hC
 obtain ⟨oe,vs,d,od,es,ep,pH,hc,hdi,hda,hsz,hd,FQ,Aq,hms,htb⟩:=id hex
 have hge:=SV.YW _ _ (l1 _ _ pH)
 have nb:∀{M:Model}{A':gY}{F:h_->g7->Prop}{e:h_}{s:g7},False->notedBy M A' env F e s:=fun z=>z.elim
 refine wpAny_handleBy_cons (codeAny_handlers_test ?_) (by intro q;cases q)
 have iS:W G.prog G.w (A.mark (some (.ref ad))) (eval (.Name cn np) env) (fun c h'=>c= .ref C/\ZO=h') (fun _ _=>False) ZO:=by
  rcases iU with e|⟨e,b,nn⟩
  ·exact O2 G.Z MX e ⟨rfl,rfl⟩ he.kd ((he.kindOf cn).trans hcn) he.gl (Xf hd1)
  ·exact Jv G.Z MX e b ⟨rfl,rfl⟩ nn he.kd ((he.kindOf cn).trans hcn) he.gl he.bl (Xf hd1)
 refine iS _ _ _ rfl (fun c h' VV z=> ?_) fun _ _ _ z=>z.elim
 obtain ⟨rfl,rfl⟩:=z
 refine wpAny_excMatches_sub_self (iT MX) hge hc (by decide) ?_
 refine codeAny_handlers_suite_as ?_
 refine NK (s:={s with heap:=ZO,toks:=VV}) MX fun X8 DY=> ?_
 have kl:env.kindOf nm=some .local:=(he.kindOf nm).trans hnm
 refine aH kl (show Heap.Ns X8 env.locals m from let ⟨_,S,_⟩:=DY;S.loc) (fun Vn Cb ud=> ?_) he.XJ
 have MY:=SS.store DY Cb ud
 have uc:Vn.get? C=_:=G.Z.k.keeps MY.Z8 _ _ hC
 have ua:Vn.Ns N (fun y=>fH DU y):=⟨oN,DU,uS,G.Z.k.keeps MY.Z8 _ _ hN,uR,hkN,fun _=>rfl⟩
 obtain ⟨iR,Ge,W1,W2,wj,w1,w2,⟨mi,mh,iQ,t_,t9,t8,t7,t6,zY,zX,oQ,tZ,zW,zV,zU,_⟩,_⟩:=id MY
 have suite:W G.prog G.w (A.mark (some (.ref ad))) (fY [.Return (some (.Attribute (.Name nm p1) "symbol" p2)) p3] env) (fun f h'=>f= .ret (.str sym tk')/\Vn=h') (fun _ _=>False) Vn:=by
  refine Nu (C_ (JB (Mh Ge (by show (if nm=nm then some (eU ad) else m nm)=some (.ref ad);rw[if_pos rfl]) ?_ he.kd rfl kl (Xf hd2)) (by rw[arm_eval_Attribute,XI rfl])))
  intro s' ki E' hs' kk iw
  obtain ⟨mX,g',d',t',os'⟩:=s'
  subst hs'
  refine Dw (mN:=fun y=>fH DU y) (mA:=ms) PySem.F.attrBase_Exception uc ua hng hnh pO (by rw[typeLookup_type,aq];rfl') (Ge.YW _ _ (w1 _ _ t7)) t6 zX zY ⟨t_,t9,t8,Ge.YW _ _ (w1 _ _ tZ),zW,zV,zU⟩ DZ rfl ?_
  exact kk _ _ _ ⟨rfl,rfl⟩
 refine suite _ _ _ rfl (fun f h' xw z=> ?_) fun _ _ _ z=>z.elim
 obtain ⟨rfl,rfl⟩:=z
 refine wpAny_nameGoes kl (show Heap.Ns Vn env.locals _ from Cb) he.XJ fun XE oO tY tX=> ?_
 have AY:=Gf (P:=fun e=>QU C (some .none) ms e) (by omega) hsc (SS.store MY tY tX)
 obtain ⟨m0,iu,iP⟩:=R
 have ir:ω.ρ.length=σ.hp.length:=iP.len
 have hle:=gp hle
 have lf:ω.le ⟨ZR.ρ.take Hx.length,ZR.B⟩:=ZX.cut (by omega)
 rw[gA] at Dv
 refine k' _ XE _ ⟨.ret (.d (.str sym)),⟨[],Hx,[]⟩,⟨ZR.ρ.take Hx.length,ZR.B⟩,k,lf,⟨oO,(fun _ _ q=>by cases q),?_,AY⟩,.str sym tk',rfl,?_⟩
 ·show (ZR.ρ.take Hx.length).length=Hx.length
  rw[fF];omega
 ·unfold Rep Y8;exact⟨tk',rfl⟩
end
section
variable {G:Gm}
theorem zT {n:Nat}{Φ:Fm}{σ:St}{body:List Stmt}{hd:cP}{pos:Pos}{K:Zk->St->Prop}{X:XK}(x:X0 G n Φ body σ K Zn):We G n Φ (.Try body [hd] [] [] pos) σ K X:=fun env ω fs he A h hA R s Q' E hs k kx=>by
 subst hs
 refine wpAny_Try_except (x he hA R s _ _ rfl (fun f ZU tk y=> ?_) fun _ _ _ y=>y.no)
 cases f with
 |next=>exact gU (k _ ZU tk y)
 |_=>exact k _ ZU tk y
theorem Gd {n:Nat}{σ:St}{X:XK}{f:Addr}{fn:Fn}{as:List AV}{K:AV->St->Prop}(ok:Q6 G f fn) (hlen:as.length=fn.ps.length) (hc:U8 fn=true) (hl:XZ fn.sc (fn.ps++fn.ex.map (·.1))=true)
  (x:∀{{env:Env}} {{ω:Wd}} {{fs:Frs}} {{A:gY}} {{h:Heap}} {{outer:List Env}},Zb ⟨fn.sc,[],fn.cd⟩ env ω.ρ->Wu n A env.locals fs->A.frames=some (env::outer)->env.frame=some env.locals->Rel G env.locals ω ⟨QI fn as,σ.hp,[]⟩ fs h->
   W G.prog G.w A (fY fn.body env) (PG G RF env.locals fs ω fun fl ZH=>K (VS fl) ⟨σ.loc,ZH.hp,σ.os⟩) (PG G RV env.locals fs ω fun _ _=>False) h):P4 G (n+1) f as σ K X:=
 OS (Yq:= []) (o2:=fun _=>σ.os) ok hlen hc hl x
theorem Du {n:Nat}{Φ:Fm}{σ:St}{f:Expr}{a:Expr}{as:List Expr}{cp pos:Pos}{K:Zk->St->Prop}{X:XK}(hf:Up f=false) (ha:(a::as).any ZD=false)
  (hs:∀env,dN (.Call f (a::as) [] cp) none pos.line env=pure false)
  (x:Zd G n Φ f σ (fun fv Z4=>YC G fv/\SR G n Φ (a::as) Z4 (fun vs ZW=>∃r H',Z5 G n fv vs ZW.hp r H'/\K .next ⟨ZW.loc,H',ZW.os⟩) X) X):We G n Φ (.Expr (.Call f (a::as) [] cp) pos) σ K X:=by
 refine Nh ?_ hs
 refine PY ?_ hf ha
 refine J.imp x ?_ fun _ _ q=>q
 rintro fv Z4 ⟨hk,k⟩
 refine⟨hk,?_⟩
 intro pos'
 refine J.imp (k pos') ?_ fun _ _ q=>q
 rintro vs ⟨loc,hp,os⟩ ⟨r,H',c,k⟩
 intro L fs ω fv vs rf rv
 refine Pt.imp (c loc os rf rv) ?_ fun _ _ z=>z.elim
 rintro a ZH ⟨rfl,rfl⟩
 exact k
def zS (x:Stmt):List Stmt:=XO 17 x ([]) fun h=> @aj (fun _=>List Stmt) x h fun b _ _ _ _=>b
def oM (x:Stmt):cP:=XO 17 x (.ExceptHandler none none [] default) fun h=> @aj (fun _=>cP) x h fun _ l _ _ _=>l.head?.getD (.ExceptHandler none none [] default)
def oK (x:Stmt):Pos:=XO 17 x (default) fun h=> @aj (fun _=>Pos) x h fun _ _ _ _ p=>p
def iO:cP->Expr| .ExceptHandler (some t) _ _ _=>t|_=> .Constant .none 0 default
def iN:cP->List Stmt| .ExceptHandler _ _ b _=>b
def iM:cP->Pos| .ExceptHandler _ _ _ p=>p
def l_ (x:Expr):Pos:=Ye 23 x (default) fun h=> @dG (fun _=>Pos) x h fun _ p=>p
def l9 (x:Stmt):Expr:=XO 3 x (.Constant .none 0 default) fun h=> @ah (fun _=>Expr) x h fun l _=>l.getD (.Constant .none 0 default)
def iL (x:Stmt):Pos:=XO 3 x (default) fun h=> @ah (fun _=>Pos) x h fun _ p=>p
abbrev Gc:Fn:=Zc 123 none ["editor","wanted","is_expression","is_back","count"] []
abbrev TM:Stmt:=VZ Gc 0
abbrev oJ:Stmt:=(iN (oM TM))[0]?.getD (.Pass default)
abbrev zR:cP:= .ExceptHandler (some (.Name "LispSignal" (l_ (iO (oM TM))))) (some "signal_here") [.Return (some (.Attribute (.Name "signal_here" (l_ (pM (l9 oJ)))) "symbol" (pK (l9 oJ)))) (iL oJ)] (iM (oM TM))
theorem Dt:Gc.body= [.Try (zS TM) [zR] [] [] (oK TM),VZ Gc 1]:=by rfl'
abbrev tW:Stmt:=(zS TM)[0]?.getD (.Pass default)
abbrev tV:Stmt:=(Ao tW)[0]?.getD (.Pass default)
abbrev yU:Stmt:=(Ao tV)[0]?.getD (.Pass default)
abbrev CU (l:List Stmt):Stmt:=l[0]?.getD (.Pass default)
theorem Gb:zS TM= [.If (y9 tW) [Tn (CU (FP tW))] [.If (y9 tV) [Tn (CU (FP tV))] [.If (y9 yU) [Tn (CU (FP yU))] [Tn (CU (Ao yU))] (yZ yU)] (yZ tV)] (yZ tW)]:=by rfl'
abbrev Lf (wn:List Nat) (ie ib:Bool) (k:Int):List (Str×AV):= [("editor",.loc 8),("wanted",.d (.str (sW wn))),("is_expression",.d (.bool ie)),("is_back",.d (.bool ib)),("count",.d (.int k))]
theorem Ms {pt:Int}{q:BB}{l:List AV}{b:Bool}(hb:b=true) (hl:Zm l):(b && Y9 19 (Yt pt q l))=true:=by
 subst hb
 exact J8 hl (H:=fun X=>Yt pt q X) fun X=>by rfl'
theorem oH {n:Nat}{k pt':Int}{wn:List Nat}{ie ib:Bool}{pt:Int}{q:BB}{l l':List AV}(hT:ZY G T0) (sc':Zm l')
  (c2:Wb G n (fm Gc) (.Try (zS TM) [zR] [] [] (oK TM)) (Lf wn ie ib k) (Yt pt q l) .next (Lf wn ie ib k) (Yt pt' q l')):
  Z5 G (n+1) (.Z8 (.ref 1620)) [.loc 8,.d (.str (sW wn)),.d (.bool ie),.d (.bool ib),.d (.int k)] (Yt pt q l) (.d .none) (Yt pt' q l'):=by
 exact YY (F:=20) hT (Ms (by rfl') sc') [.cut 1193 .next (Lf wn ie ib k) (Yt pt' q l')] (fun loc=>Wb G n (fm Gc) (.Try (zS TM) [zR] [] [] (oK TM)) (Lf wn ie ib k) (Yt pt q l) .next (Lf wn ie ib k) (Yt pt' q l')/\Post loc (.d .none) (Yt pt' q l') (.d .none) ⟨loc,Yt pt' q l',[]⟩) (fun loc=>by rfl') fun loc=>⟨c2,Z1 rfl⟩
theorem zQ {n:Nat}{N:Addr}{k:Int}{wn:List Nat}{ie ib:Bool}{pt:Int}{q:BB}{l:List AV}(hT:ZY G T0) (xo:SE G 38 N 35) (hl:DQ l)
  (xb:X0 G n (fm Gc) (zS TM) ⟨Lf wn ie ib k,Yt pt q l,[]⟩ (fun _ _=>False) (XP 38 "search-failed" (Yt pt q l))):
  Z5 G (n+1) (.Z8 (.ref 1620)) [.loc 8,.d (.str (sW wn)),.d (.bool ie),.d (.bool ib),.d (.int k)] (Yt pt q l) (.d (.str "search-failed")) (Yt pt q l):=by
 have iK:Y9 19 (Yt pt q l)=true:=(g6.mp (Ms (b:=true) rfl hl.sc)).2
 intro loc os L fs ω fv vs rf rv
 refine P4.cl (Gd (σ:=⟨loc,Yt pt q l,os⟩) (hT.fn 1620 Gc (by rfl')).1 rfl (by rfl') (by rfl') ?_) rf rv
 intro env ω fs A h outer he hA hfr hf R
 rw[Dt]
 refine Nu ((ue xo (hT.gl "LispSignal" _ (by rfl')) (K:=fun fl ZH=>fl= .ret (.d (.str "search-failed"))/\ZH.hp=Yt pt q l) (X:=fun _ _=>False) xb iK (by rfl') (by rfl') (by rfl') (by rfl') (by rfl') ⟨rfl,rfl⟩ he hA hfr hf R).mono (fun f h' y=> ?_) fun _ _ y=>y)
 obtain ⟨fl,ZH,Zw,⟨rfl,e⟩,l',R',v,rfl,rv⟩:=y
 exact⟨.ret (.d (.str "search-failed")),ZH,Zw,⟨rfl,by rw[e]⟩,l',R',v,rfl,rv⟩
theorem Wv {n:Nat}{Φ:Fm}{σ:St}{s:Stmt}{K:Zk->St->Prop}{X:XK}(x:We G n Φ s σ K X):X0 G n Φ [s] σ K X:=
 YJ (J.imp x (fun f σ h=>by cases f with|next=>exact OU h|_=>exact h) fun _ _ q=>q)
abbrev wX (ie ib:Bool):Stmt:=CU (cond ie (cond ib (FP tW) (FP tV)) (cond ib (FP yU) (Ao yU)))
abbrev lX (ie ib:Bool) (pt:Int) (q:BB) (wn:List Nat) (k:Int) (l:List AV):St:=⟨Lf wn ie ib k,Yt pt q l,[]⟩
abbrev lZ (ie ib:Bool) (wn:List Nat) (k:Int):List AV:= [.loc 8,.d (.str (sW wn)),.d (.bool ie),.d (.bool ib),.d (.int k)]
section
variable {n:Nat}{N:Addr}{ie ib:Bool}{k pt m pt':Int}{wn:List Nat}{q:BB}{l l':List AV}{o:Out}{pS:Int->Int}{X:XK}{K:Zk->St->Prop}
theorem lY (hT:ZY G T0) (x:We G n (fm Gc) (Tn (wX ie ib)) (lX ie ib pt q wn k l) K X):X0 G n (fm Gc) (zS TM) (lX ie ib pt q wn k l) K X:=by
 rw[Gb]
 cases ie with
 |true=>cases ib with
  |true=>exact Wv (U9 (QT (F:=16) hT true (lX true true pt q wn k l) (by rfl') (Wv x)))
  |false=>exact Wv (U9 (QT (F:=16) hT false (lX true false pt q wn k l) (by rfl') (Wv (U9 (QT (F:=16) hT true (lX true false pt q wn k l) (by rfl') (Wv x))))))
 |false=>cases ib with
  |true=>exact Wv (U9 (QT (F:=16) hT false (lX false true pt q wn k l) (by rfl') (Wv (U9 (QT (F:=16) hT false (lX false true pt q wn k l) (by rfl') (Wv (U9 (QT (F:=16) hT true (lX false true pt q wn k l) (by rfl') (Wv x)))))))))
  |false=>exact Wv (U9 (QT (F:=16) hT false (lX false false pt q wn k l) (by rfl') (Wv (U9 (QT (F:=16) hT false (lX false false pt q wn k l) (by rfl') (Wv (U9 (QT (F:=16) hT false (lX false false pt q wn k l) (by rfl') (Wv x)))))))))
theorem su (ie ib:Bool):(Up (uO (Ls (wX ie ib))),(Al (FO (Ls (wX ie ib)))::(FO (Ls (wX ie ib))).drop 1).any ZD)=(false,false):=by cases ie<;>cases ib<;>rfl'
theorem lW (ie ib:Bool):∀env,dN (.Call (uO (Ls (wX ie ib))) (Al (FO (Ls (wX ie ib)))::(FO (Ls (wX ie ib))).drop 1) [] (pJ (Ls (wX ie ib)))) none (mH (wX ie ib)).line env=pure false:=by cases ie<;>cases ib<;>exact fun _=>by rfl'
theorem lV {KK:AV->List AV->St->Prop}(hT:ZY G T0) (Pe:1<=wn.length/\wn.length<=3) (x:KK (.Z8 (.ref (cX ie ib))) (oX ie ib) ⟨Lf wn ie ib k,Uw (bX ie ib) pt q wn k l,[]⟩):
  Zd G n (fm Gc) (uO (Ls (wX ie ib))) (lX ie ib pt q wn k l) (fun fv Z4=>YC G fv/\SR G n (fm Gc) (Al (FO (Ls (wX ie ib)))::(FO (Ls (wX ie ib))).drop 1) Z4 (KK fv) X) X:=by
 have kt:gw G.K (.ref (cX ie ib))=true:=(hT.fn (cX ie ib) (fX ie ib) (by clear x;cases ie<;>cases ib<;>rfl')).2
 refine S7 (F:=10) hT (.Z8 (.ref (cX ie ib))) (lX ie ib pt q wn k l) (by clear kt x;cases ie<;>cases ib<;>rfl') ⟨YC.Z8 kt,?_⟩
 clear kt
 cases ie with
 |true=>cases ib with
  |true=>exact Uz (F:=20) hT (oX true true) ⟨Lf wn true true k,Uw false pt q wn k l,[]⟩ (by rfl') x
  |false=>exact Uz (F:=20) hT (oX true false) ⟨Lf wn true false k,Uw false pt q wn k l,[]⟩ (by rfl') x
 |false=>cases ib with
  |false=>exact Uz (F:=20) hT (oX false false) ⟨Lf wn false false k,Uw false pt q wn k l,[]⟩ (by rfl') x
  |true=>
   refine Uz (F:=30) hT (oX false true) ⟨Lf wn false true k,Uw true pt q wn k l,[]⟩ ?_ x
   clear x
   match wn,Pe with
   | [a],_=>rfl'
   | [a,b],_=>rfl'
   | [a,b,d],_=>rfl'
   | [],h=>exact absurd h.1 (by decide)
   |a::b::d::e::r,h=>exact absurd h.2 (by simp only[fR];omega)
theorem tU (hT:ZY G T0) (sc':Zm l') (Pe:1<=wn.length/\wn.length<=3) (c:Z5 G n (.Z8 (.ref (cX ie ib))) (oX ie ib) (Uw (bX ie ib) pt q wn k l) (.d .none) (Uw (bX ie ib) pt' q wn k l')):
  Z5 G (n+1) (.Z8 (.ref 1620)) (lZ ie ib wn k) (Yt pt q l) (.d .none) (Yt pt' q l'):=
 oH hT sc' (Wb.mk (Yq:= []) (zT (lY hT (Du (congrArg (·.1) (su ie ib)) (congrArg (·.2) (su ie ib)) (lW ie ib) (lV hT Pe ⟨.d .none,_,c,Zz (k0:=19) (os:= []) (fl:= .next) (loc:=Lf wn ie ib k) (YQ:=Lf wn ie ib k) (H':=Yt pt' q l') (g:=gX (bX ie ib) wn k) (Ms (by rfl') sc') trivial (SG (by rfl'))⟩)))))
def oG (G:Gm) (n:Nat) (as:List AV) (H:List AO) (Hh:Int->List AO):Out->Prop
 | .quiet=>Z5 G n (.Z8 (.ref 1620)) as H (.d .none) H
 | .hit s=>Z5 G n (.Z8 (.ref 1620)) as H (.d .none) (Hh s)
 | .miss=>Z5 G n (.Z8 (.ref 1620)) as H (.d (.str "search-failed")) H
theorem Ca (hT:ZY G T0) (xo:SE G 38 N 35) (hl:DQ l) (Pe:1<=wn.length/\wn.length<=3) (c:CO G n (.Z8 (.ref (cX ie ib))) (oX ie ib) (Uw (bX ie ib) pt q wn k l) o fun s=>Uw (bX ie ib) (pS s) q wn k (Tj s m)):
  oG G (n+1) (lZ ie ib wn k) (Yt pt q l) (fun s=>Yt (pS s) q (Tj s m)) o:=by
 revert c
 cases o with
 |quiet=>exact fun c=>tU hT hl.sc Pe c
 |hit s=>exact fun c=>tU hT (fun _=>rfl) Pe c
 |miss=>exact fun c=>zQ hT xo hl (lY hT (Vq (Hx:=Yt pt q l) (g:=gX (bX ie ib) wn k) (congrArg (·.1) (su ie ib)) (congrArg (·.2) (su ie ib)) (lW ie ib) (lV hT Pe ⟨_,rfl,c⟩)))
end
end
section
variable {G:Gm}{C:LC}{k pt bz zv:Int}{l:List AV}
def lO:Option (Int×Int)->List AV|none=> []|some (a,b)=> [.d (.tup [.int a,.int b])]
def NJ:Option (Int×Int)->List Int|none=> []|some (a,b)=> [a,b]
theorem Qj {o:Option (Int×Int)}:DQ (lO o):=by
 cases o with
 |none=>exact⟨fun _=>rfl,fun _=>rfl⟩
 |some o=>exact⟨fun _=>rfl,fun _=>rfl⟩
theorem Ds {n:Nat}{o:Option (Int×Int)}(hT:ZY G T0):Z5 G (n+1) (.Z8 (.ref 1547)) [.loc 0] [V7 (lO o)] (.loc 1) [V7 (lO o),.Z_ (NJ o)]:=by
 cases o with
 |none=>exact((um (n:=n) hT).box (H:= [V7 []]) (i:=0) (j:=1) (l':= []) (o:= .list []) (by rfl') (by rfl') (by rfl') (by rfl') (by decide)).anew [0,2] (by rfl') (by rfl') (by rfl')
 |some o=>
  obtain ⟨a,b⟩:=o
  have k:Z5 G (n+1) (.Z8 (.ref 1547)) [.loc 0] (FL (lO (some (a,b)))) (.loc 2) (FL (lO (some (a,b)))++ [.Z_ [a,b],.list (lO (some (a,b))),.gone,.Z_ [a,b]]):=YY (F:=40) hT (by rfl') [] (fun loc=>Post loc (.loc 2) (FL (lO (some (a,b)))++ [.Z_ [a,b],.list (lO (some (a,b))),.gone,.Z_ [a,b]]) (.loc 2) ⟨loc,FL (lO (some (a,b)))++ [.Z_ [a,b],.list (lO (some (a,b))),.gone,.Z_ [a,b]],[]⟩) (fun loc=>by rfl') fun loc=>Z1 rfl
  exact(k.box (H:= [V7 (lO (some (a,b)))]) (i:=0) (j:=1) (l':=lO (some (a,b))) (o:= .list (lO (some (a,b)))) (by rfl') (by rfl') (by rfl') (by rfl') (by decide)).anew [0,2] (by rfl') (by rfl') (by rfl')
def tT (ie:Bool) (f:Int->Int) (bz zv:Int) (ws:List Int) (k pt:Int):Option Int:=match ie with|true=>sM f bz zv (ws.map Yg) k pt|false=>sN f bz zv ws k pt
def oF (ie:Bool) (c:Int):Prop:=match ie with|true=>Qq c|false=>isLt c
theorem oE {n:Nat}{N:Addr}{ie ib:Bool}{k:Int}{us:List Int}{wn:List Nat}{pt:Int}{q:BB}{l:List AV}(hT:ZY G T0) (xo:SE G 38 N 35) (kp:gw G.K (.ref 38)=true) (hl:DQ l) (a:GF us pt q.bz q.zv q.gs q.cs (U_ ib k)) (hw:∀w∈cW wn,oF ie w) (Pe:1<=wn.length/\wn.length<=3):
  oG G (n+13) [.loc 8,.d (.str (sW wn)),.d (.bool ie),.d (.bool ib),.d (.int k)] (Yt pt q l) (fun s=>Yt (Wj (U_ ib k) wn.length q.bz q.zv s) q (Tj s wn.length)) (NY (U_ ib k) (tT ie (ZV us q.bz q.zv) q.bz q.zv (cW wn) (U_ ib k) pt)):=by
 have e:(cW wn).length=wn.length:=gn ..
 have h3:1<=(cW wn).length/\(cW wn).length<=3:=e▸Pe
 rw[<-e]
 cases ie with
 |true=>exact Ca hT xo hl Pe (uD hT hl Pe (uI (n:=n) hT xo kp hl a hw h3))
 |false=>exact Ca hT xo hl Pe (uD hT hl Pe (uK (n:=n+2) hT xo kp hl a hw h3))
end
section
variable {G:Gm}{C:LC}{k pt bz zv:Int}{b:Bool}
abbrev Zt (C:LC) (b:Bool) (k pt bz zv:Int) (o:Option (Int×Int)) (X:List AO):List AO:=lw C (some (.d (.bool b))) k pt bz zv (lO o) X
theorem Mr {n:Nat}{o:Option (Int×Int)}{x y z:AO}(hT:ZY G T0):Z5 G (n+1) (.Z8 (.ref 1547)) [.loc 26] (Zt C b k pt bz zv o [x,y,z]) (.loc 30) (Zt C b k pt bz zv o [x,y,z,.Z_ (NJ o)]):=by
 cases o with
 |none=>exact(Ds (n:=n) (o:=none) hT).at [26] (by rfl') (by rfl') (by rfl')
 |some o=>exact(Ds (n:=n) (o:=some o) hT).at [26] (by rfl') (by rfl') (by rfl')
theorem Mq {n:Nat}{o:Option (Int×Int)}{x y z u:AO}(hT:ZY G T0):Z5 G (n+1) (.Z8 (.ref 1547)) [.loc 26] (Zt C b k pt bz zv o [x,y,z,u]) (.loc 31) (Zt C b k pt bz zv o [x,y,z,u,.Z_ (NJ o)]):=by
 cases o with
 |none=>exact(Ds (n:=n) (o:=none) hT).at [26] (by rfl') (by rfl') (by rfl')
 |some o=>exact(Ds (n:=n) (o:=some o) hT).at [26] (by rfl') (by rfl') (by rfl')
abbrev oB:List Nat:= [10,11,12,13,14,15,1,2,16,17,18,19,20,21,22,23,24,25,26]
theorem tS {n:Nat}{N:Addr}{ie ib:Bool}{c:Int}{wn:List Nat}{o:Option (Int×Int)}{x y z u:AO}(hT:ZY G T0) (xo:SE G 38 N 35) (kp:gw G.K (.ref 38)=true) (a:GF (cW C.tn) pt bz zv (cW C.tn).length C.cs (U_ ib c)) (hw:∀w∈cW wn,oF ie w) (Pe:1<=wn.length/\wn.length<=3):
  oG G (n+13) [.loc 16,.d (.str (sW wn)),.d (.bool ie),.d (.bool ib),.d (.int c)] (Zt C b k pt bz zv o [x,y,z,u]) (fun s=>Zt C b k (Wj (U_ ib c) wn.length bz zv s) bz zv (some (s,s+wn.length)) [x,y,z,u]) (NY (U_ ib c) (tT ie (ZV (cW C.tn) bz zv) bz zv (cW wn) (U_ ib c) pt)):=by
 have c0:=oE (n:=n) (q:=⟨bz,zv,C.tk,(cW C.tn).length,C.ge,C.cs⟩) hT xo kp (Qj (o:=o)) a hw Pe
 revert c0
 cases NY (U_ ib c) (tT ie (ZV (cW C.tn) bz zv) bz zv (cW wn) (U_ ib c) pt) with
 |quiet=>exact fun c0=>Z5.UU (L:=lO o) (H0:=fun L=>Yt pt ⟨bz,zv,C.tk,(cW C.tn).length,C.ge,C.cs⟩ L) (X_:=fun L=>Yt pt ⟨bz,zv,C.tk,(cW C.tn).length,C.ge,C.cs⟩ L) (Hb:=fun L=>lw C (some (.d (.bool b))) k pt bz zv L [x,y,z,u]) (VM:=fun L=>lw C (some (.d (.bool b))) k pt bz zv L [x,y,z,u]) c0 Qj.Yb oB 31 (by rfl') (fun X=>by rfl') (fun X=>by rfl') (fun X=>by rfl')
 |miss=>exact fun c0=>Z5.UU (L:=lO o) (H0:=fun L=>Yt pt ⟨bz,zv,C.tk,(cW C.tn).length,C.ge,C.cs⟩ L) (X_:=fun L=>Yt pt ⟨bz,zv,C.tk,(cW C.tn).length,C.ge,C.cs⟩ L) (Hb:=fun L=>lw C (some (.d (.bool b))) k pt bz zv L [x,y,z,u]) (VM:=fun L=>lw C (some (.d (.bool b))) k pt bz zv L [x,y,z,u]) c0 Qj.Yb oB 31 (by rfl') (fun X=>by rfl') (fun X=>by rfl') (fun X=>by rfl')
 |hit s=>exact fun c0=>Z5.UU (L:=lO o) (H0:=fun L=>Yt pt ⟨bz,zv,C.tk,(cW C.tn).length,C.ge,C.cs⟩ L) (X_:=fun L=>Yt (Wj (U_ ib c) wn.length bz zv s) ⟨bz,zv,C.tk,(cW C.tn).length,C.ge,C.cs⟩ (Tj s wn.length)) (Hb:=fun L=>lw C (some (.d (.bool b))) k pt bz zv L [x,y,z,u]) (VM:=fun L=>lw C (some (.d (.bool b))) k (Wj (U_ ib c) wn.length bz zv s) bz zv (lO (some (s,s+wn.length))) [x,y,z,u]) c0 Qj.Yb oB 31 (by rfl') (fun X=>by rfl') (fun X=>by rfl') (fun X=>by rfl')
abbrev Sx (ie:Bool):Str:=match ie with|true=> "aAb." |false=> "aAb"
abbrev JF:Stmt:=VZ Vi 5
abbrev TJ (i:Nat):Stmt:=((Wt JF)[i]?).getD (.Pass default)
abbrev FJ:Expr:=z6 (y_ (TJ 1))
theorem zP:FJ= .ListComp (uq FJ) [⟨.Name "step" (yW (JZ FJ).target),(JZ FJ).iter,[],0⟩] (uo FJ) (yX FJ):=by rfl'
theorem Dr {n:Nat}{x:AO}{ie:Bool}{m:Int}{o:Option (Int×Int)}{loc:List (Str×AV)}(hT:ZY G T0) (hk:0<=k/\k<=900) (hs:C.sc.length<=100) (hm:ZN C.sc k 3=m) (h:0<=m/\m<3):
  MW G (n+2) pL FJ loc (Zt C ie k pt bz zv o [x]) (.loc 29) (Zt C ie (k+1+(1+m).toNat) pt bz zv o [x,.gone,Zy (Y_ C.sc (Sx ie) (k+1) (1+m).toNat)]):=by
 have hl:(ZI 0 (1+m).toNat).length=(1+m).toNat:=Vs ..
 have d0:Z5 G (n+2) (.Z8 (.ref 1589)) [.loc 7,.d (.int 3)] (Zt C ie k pt bz zv o [x]) (.d (.int m)) (Zt C ie (k+1) pt bz zv o [x]):=hm▸WT (n:=n+1) (m:=3) hT (by omega) hs (by decide)
 have big:(ev G T0 24).e (n+2) pL (JZ FJ).iter ⟨loc,Zt C ie k pt bz zv o [x],[.con 1216 (.d (.int m)) (Zt C ie (k+1) pt bz zv o [x]),.k 1216]⟩ fun a σ=>VO (yX FJ).line a σ fun k' ZW=>k'=28/\ZW=⟨loc,Zt C ie (k+1+(0:Nat)) pt bz zv o [x]++ [.it false (ZI 0 (1+m).toNat)],[]⟩:=
  @cast (Z5 G (n+2) (.Z8 (.ref 1589)) [.loc 7,.d (.int 3)] (Zt C ie k pt bz zv o [x]) (.d (.int m)) (Zt C ie (k+1) pt bz zv o [x])/\(match Y6 0 with|true=>Y6 (1+m)|false=>false)=true/\28=28/\(⟨loc,Zt C ie (k+1) pt bz zv o [x]++ [.it false (ZI 0 (1+m - 0).toNat)],[]⟩:St)=⟨loc,Zt C ie (k+1+(0:Nat)) pt bz zv o [x]++ [.it false (ZI 0 (1+m).toNat)],[]⟩) _ (by rfl') ⟨d0,fT (by omega),rfl,by rw[aM,show k+1+((0:Nat):Int)=k+1 by omega]⟩
 have c:=O_ (G:=G) (n:=n+2) (N:=28) (F:=24) (Φ:=pL) (loc:=loc) (H0:=Zt C ie k pt bz zv o [x]) (S:=fun j=>Zt C ie (k+1+j) pt bz zv o [x]) (els:=ZI 0 (1+m).toNat) (out:=fun j=>Zy (Y_ C.sc (Sx ie) (k+1) j)) hT zP (by rfl') (fun _=>rfl) rfl
  (fun j=>⟨Qm,fun q=>by rw[Ql,XH];omega⟩) big
  (fun j a tl ha=>by
   have hj:j<(1+m).toNat:=by rw[<-hl];exact(fD.mp ha).1
   have p:Z5 G (n+2) (.Z8 (.ref 1596)) [.loc 7,.d (.str (Sx ie))] (Zt C ie (k+1+j) pt bz zv o [x,.it false tl,Zy (Y_ C.sc (Sx ie) (k+1) j)]) (sA (Xb C.sc (k+1+j) (Sx ie))) (Zt C ie (k+1+j+1) pt bz zv o [x,.it false tl,Zy (Y_ C.sc (Sx ie) (k+1) j)]):=Ll hT (by omega) hs (by cases ie<;>decide) (by cases ie<;>decide)
   have e:k+1+((j+1:Nat):Int)=k+1+j+1:=by omega
   rw[show Y_ C.sc (Sx ie) (k+1) (j+1)=Y_ C.sc (Sx ie) (k+1) j++ [Xb C.sc (k+1+j) (Sx ie)] from rfl,e]
   revert p
   generalize Xb C.sc (k+1+j) (Sx ie)=c
   generalize Y_ C.sc (Sx ie) (k+1) j=l
   cases ie with
   |true=>
    intro p
    refine Gq (F:=20) hT [.t 1216,.con 1216 (sA c) (Zt C true (k+1+j+1) pt bz zv o [x,.it false tl,Zy l])] (sA c) ⟨[("step",a)],Zt C true (k+1+j+1) pt bz zv o [x,.it false tl,Zy l],[]⟩ (true=true/\Z5 G (n+2) (.Z8 (.ref 1596)) [.loc 7,.d (.str (Sx true))] (Zt C true (k+1+j) pt bz zv o [x,.it false tl,Zy l]) (sA c) (Zt C true (k+1+j+1) pt bz zv o [x,.it false tl,Zy l])/\sA c=sA c/\(⟨[("step",a)],Zt C true (k+1+j+1) pt bz zv o [x,.it false tl,Zy l],[]⟩:St)=⟨[("step",a)],Zt C true (k+1+j+1) pt bz zv o [x,.it false tl,Zy l],[]⟩) (by rfl') ⟨rfl,p,rfl,rfl⟩ ?_
    exact⟨TN,rfl⟩
   |false=>
    intro p
    refine Gq (F:=20) hT [.f 1216,.con 1216 (sA c) (Zt C false (k+1+j+1) pt bz zv o [x,.it false tl,Zy l])] (sA c) ⟨[("step",a)],Zt C false (k+1+j+1) pt bz zv o [x,.it false tl,Zy l],[]⟩ (false=false/\Z5 G (n+2) (.Z8 (.ref 1596)) [.loc 7,.d (.str (Sx false))] (Zt C false (k+1+j) pt bz zv o [x,.it false tl,Zy l]) (sA c) (Zt C false (k+1+j+1) pt bz zv o [x,.it false tl,Zy l])/\sA c=sA c/\(⟨[("step",a)],Zt C false (k+1+j+1) pt bz zv o [x,.it false tl,Zy l],[]⟩:St)=⟨[("step",a)],Zt C false (k+1+j+1) pt bz zv o [x,.it false tl,Zy l],[]⟩) (by rfl') ⟨rfl,p,rfl,rfl⟩ ?_
    exact⟨TN,rfl⟩)
 rw[hl] at c
 exact c
theorem Ga {α:Type}{l:List α}{i:Int}(h0:0<=i) (h1:i<=l.length):Xr l (some i) none=l.drop i.toNat:=by
 have a:Si l.length (some i)=i.toNat:=by show (match decide (i<0) with|true=>(i+(l.length:Int)).toNat|false=>min i.toNat l.length)=_;rw[decide_eq_false (by omega)];exact cg (by omega)
 have b:L7 l.length none=l.length:=rfl
 unfold Xr
 rw[a,b]
 exact cC (by simp)
theorem zO {n:Nat}{tn wn:List Nat}{x:Int}{ie:Bool}(hT:ZY G T0) (h1:∀c∈tn,Wh c) (h2:∀c∈wn,Wh c) (hs:tn.length<=100) (hw:wn.length<=100) (h0:0<=x):Z5 G (n+2) (.Z8 (.ref 1610)) [.d (.str (sW tn)),.d (.int x),.d (.str (sW wn)),.d (.bool ie)] [] (.d (.bool (V6 ie tn wn x))) []:=by
 unfold V6
 cases e:decide ((tn.length:Int)<x+wn.length) with
 |true=>exact J0 hT hs hw (of_decide_eq_true e)
 |false=>
  have e:=of_decide_eq_false e
  refine Ae hT ?_ hs hw (by show x+(wn.length:Int)<=tn.length;omega) ?_
  ·intro p hp
   obtain ⟨a,b⟩:=p
   have:=List.of_mem_zip hp
   exact⟨h2 _ this.1,h1 _ (List.mem_of_mem_drop this.2)⟩
  ·show (gH wn (Xr tn (some x) none)).map Lp=_
   rw[Ga h0 (by omega)]
theorem JS {n:Nat}{wn:List Nat}{lo hi p c:Int}{ie:Bool}{o:Option (Int×Int)}{X:List AO}(hT:ZY G T0) (h1:∀c∈C.tn,Wh c) (h2:∀c∈wn,Wh c) (hs:C.tn.length<=12) (hw:wn.length<=3) (hl:0<=lo/\lo<=50) (hh:0<=hi/\hi<=50) (hp:0<=p/\p<=50) (hc: -50<=c/\c<=50):
  Z5 G (n+3) (.Z8 (.ref 1615)) [.d (.str (T' C)),.d (.int lo),.d (.int hi),.d (.int p),.d (.str (sW wn)),.d (.bool ie),.d (.int c)] (Zt C b k pt bz zv o X) (fA wn.length (NN ie C.tn wn lo hi p c)) (Zt C b k pt bz zv o X):=by
 have d:=Gw (n:=n) (T:=T' C) (W:=sW wn) (ie:=ie) (P:=V6 ie C.tn wn) hT (by show wn.length<=100;omega) hl hh hp hc (fun x hx=>zO hT h1 h2 (by omega) (by omega) hx)
 have d:Z5 G (n+3) (.Z8 (.ref 1615)) [.d (.str (T' C)),.d (.int lo),.d (.int hi),.d (.int p),.d (.str (sW wn)),.d (.bool ie),.d (.int c)] [] (fA wn.length (NN ie C.tn wn lo hi p c)) []:=d
 revert d
 cases NN ie C.tn wn lo hi p c with
 |none=>
      intro d;have d':Z5 G (n+3) (.Z8 (.ref 1615)) [.d (.str (T' C)),.d (.int lo),.d (.int hi),.d (.int p),.d (.str (sW wn)),.d (.bool ie),.d (.int c)] (Zt C b k pt bz zv o X) (.d .none) (Zt C b k pt bz zv o X++ []):=d.at [] (by rfl') (by rfl') (by rfl')
      rw[Ro] at d';exact d'
 |some s=>
       intro d;have d':Z5 G (n+3) (.Z8 (.ref 1615)) [.d (.str (T' C)),.d (.int lo),.d (.int hi),.d (.int p),.d (.str (sW wn)),.d (.bool ie),.d (.int c)] (Zt C b k pt bz zv o X) (.d (.tup [.int s,.int (s+wn.length)])) (Zt C b k pt bz zv o X++ []):=d.at [] (by rfl') (by rfl') (by rfl')
       rw[Ro] at d';exact d'
end
section
variable {G:Gm}{C:LC}{n:Nat}{K:Zk->St->Prop}{lo hi t k p c pt:Int}{ie ib:Bool}{wn:List Nat}{o:Option (Int×Int)}{x:AO}
abbrev zN (T:Str) (lo hi t:Int):List (Str×AV):= [("script",.loc 0),("text",.d (.str T)),("high",.d (.int hi)),("low",.d (.int lo)),("editor",.loc 16),("buffer",.loc 10),("turn",.d (.int t))]
abbrev Mp (T:Str) (lo hi t:Int) (ib:Bool):List (Str×AV):= [("script",.loc 0),("text",.d (.str T)),("high",.d (.int hi)),("low",.d (.int lo)),("editor",.loc 16),("buffer",.loc 10),("turn",.d (.int t)),("is_back",.d (.bool ib))]
abbrev JR (T:Str) (lo hi t:Int) (ib:Bool) (W:Str) (p c:Int):List (Str×AV):= [("script",.loc 0),("text",.d (.str T)),("high",.d (.int hi)),("low",.d (.int lo)),("editor",.loc 16),("buffer",.loc 10),("turn",.d (.int t)),("is_back",.d (.bool ib)),("wanted",.d (.str W)),("place",.d (.int p)),("count",.d (.int c))]
abbrev Rj (T:Str) (lo hi t:Int) (ib:Bool) (W:Str) (p c:Int) (d:AV):List (Str×AV):= [("script",.loc 0),("text",.d (.str T)),("high",.d (.int hi)),("low",.d (.int lo)),("editor",.loc 16),("buffer",.loc 10),("turn",.d (.int t)),("is_back",.d (.bool ib)),("wanted",.d (.str W)),("place",.d (.int p)),("count",.d (.int c)),("due",d)]
abbrev X3 (x:AO) (wn:List Nat):List AO:= [x,.gone,Zy wn]
abbrev X4 (x:AO) (wn:List Nat) (o:Option (Int×Int)):List AO:= [x,.gone,Zy wn,.Z_ (NJ o)]
abbrev X5 (x:AO) (wn:List Nat) (o o':Option (Int×Int)):List AO:= [x,.gone,Zy wn,.Z_ (NJ o),.Z_ (NJ o')]
theorem zM {i0:Option AV}(hT:ZY G T0) (hk:0<=k/\k<=900) (hs:C.sc.length<=100) (kk:K .next ⟨Mp (T' C) lo hi t (decide (ZN C.sc (k+1) 2=1)),Zt C (decide (ZN C.sc k 2=1)) (k+1+1) pt (lo+1) (hi+1) o [x],[]⟩):X0 G (n+13) pL [TJ 0] ⟨zN (T' C) lo hi t,lw C i0 k pt (lo+1) (hi+1) (lO o) [x],[]⟩ K Zn:=by
 have d0:=WT (G:=G) (n:=n+12) (C:=C) (ie:=i0) (k:=k) (pt:=pt) (bz:=lo+1) (zv:=hi+1) (l:=lO o) (X:= [x]) (m:=2) hT (by omega) hs (by decide)
 have d1:=WT (G:=G) (n:=n+12) (C:=C) (ie:=i0) (k:=k+1) (pt:=pt) (bz:=lo+1) (zv:=hi+1) (l:=lO o) (X:= [x]) (m:=2) hT (by omega) hs (by decide)
 revert d0 d1 kk
 generalize ZN C.sc k 2=a
 generalize ZN C.sc (k+1) 2=b
 intro kk d0 d1
 refine Wz (F:=20) hT [.con 1215 (.d (.int a)) (lw C i0 (k+1) pt (lo+1) (hi+1) (lO o) [x]),.con 1215 (.d (.int b)) (lw C i0 (k+1+1) pt (lo+1) (hi+1) (lO o) [x])] .next ⟨Mp (T' C) lo hi t (decide (b=1)),Zt C (decide (a=1)) (k+1+1) pt (lo+1) (hi+1) o [x],[]⟩ (Z5 G (n+13) (.Z8 (.ref 1589)) [.loc 7,.d (.int 2)] (lw C i0 k pt (lo+1) (hi+1) (lO o) [x]) (.d (.int a)) (lw C i0 (k+1) pt (lo+1) (hi+1) (lO o) [x])/\Z5 G (n+13) (.Z8 (.ref 1589)) [.loc 7,.d (.int 2)] (lw C i0 (k+1) pt (lo+1) (hi+1) (lO o) [x]) (.d (.int b)) (lw C i0 (k+1+1) pt (lo+1) (hi+1) (lO o) [x])/\Zk.next= .next/\(⟨Mp (T' C) lo hi t (decide (b=1)),Zt C (decide (a=1)) (k+1+1) pt (lo+1) (hi+1) o [x],[]⟩:St)=⟨Mp (T' C) lo hi t (decide (b=1)),Zt C (decide (a=1)) (k+1+1) pt (lo+1) (hi+1) o [x],[]⟩) (by rfl') ⟨d0,d1,rfl,rfl⟩ ?_
 exact kk
theorem zL (hT:ZY G T0) (hk:0<=k/\k<=800) (hs:C.sc.length<=100) (hlh:lo<=hi)
  (kk:∀m d0 d1:Int,0<=m/\m<3->0<=d0/\d0<5->0<=d1/\d1<hi - lo+1->K .next ⟨JR (T' C) lo hi t ib (sW (Y_ C.sc (Sx ie) (k+1) (1+m).toNat)) (lo+d1) (d0 - 1),Zt C ie (k+1+(1+m).toNat+1+1) (lo+d1+1) (lo+1) (hi+1) o (X3 x (Y_ C.sc (Sx ie) (k+1) (1+m).toNat)),[]⟩):
  X0 G (n+13) pL [TJ 1,TJ 2,TJ 3] ⟨Mp (T' C) lo hi t ib,Zt C ie k pt (lo+1) (hi+1) o [x],[]⟩ K Zn:=by
 have hm:=Y5 (sc:=C.sc) (k:=k) (many:=3) (by decide)
 have e:=Dr (G:=G) (C:=C) (n:=n+11) (x:=x) (ie:=ie) (k:=k) (pt:=pt) (bz:=lo+1) (zv:=hi+1) (o:=o) (loc:=Mp (T' C) lo hi t ib) hT (by omega) hs rfl hm
 have kk:=kk _ _ _ hm (Y5 (sc:=C.sc) (k:=k+1+(1+ZN C.sc k 3).toNat) (many:=5) (by decide)) (Y5 (sc:=C.sc) (k:=k+1+(1+ZN C.sc k 3).toNat+1) (many:=hi - lo+1) (by omega))
 revert e kk
 have hlen:(Y_ C.sc (Sx ie) (k+1) (1+ZN C.sc k 3).toNat).length<=100:=by rw[XH];omega
 revert hlen
 generalize Y_ C.sc (Sx ie) (k+1) (1+ZN C.sc k 3).toNat=wn
 intro hlen
 generalize hk2:k+1+((1+ZN C.sc k 3).toNat:Int)=k2
 have hk2:0<=k2/\k2<=900:=by omega
 intro e kk
 have j:=Gs (G:=G) (n:=n+13) (i:=29) (l:=wn) (H:=Zt C ie k2 pt (lo+1) (hi+1) o (X3 x wn)) rfl hlen
 have d0:=WT (G:=G) (n:=n+12) (C:=C) (ie:=some (.d (.bool ie))) (k:=k2) (pt:=pt) (bz:=lo+1) (zv:=hi+1) (l:=lO o) (X:=X3 x wn) (m:=5) hT (by omega) hs (by decide)
 have d1:=WT (G:=G) (n:=n+12) (C:=C) (ie:=some (.d (.bool ie))) (k:=k2+1) (pt:=pt) (bz:=lo+1) (zv:=hi+1) (l:=lO o) (X:=X3 x wn) (m:=hi - lo+1) hT (by omega) hs (by omega)
 have hr:=Y5 (sc:=C.sc) (k:=k2+1) (many:=hi - lo+1) (by omega)
 revert d0 d1 kk hr
 generalize ZN C.sc k2 5=a
 generalize ZN C.sc (k2+1) (hi - lo+1)=b
 intro kk d0 d1 hr
 have g:=DA (G:=G) (n:=n+12) (C:=C) (ie:=some (.d (.bool ie))) (k:=k2+1+1) (pt:=pt) (bz:=lo+1) (zv:=hi+1) (l:=lO o) (X:=X3 x wn) (p:=lo+b+1) hT
 rw[B5 (x:=lo+b+1) (by have:=hr.1;omega) (by have:=hr.2;omega)] at g
 refine Wz (F:=20) hT [.Jj 1216 (.loc 29) (Zt C ie k2 pt (lo+1) (hi+1) o (X3 x wn)),.con 1216 (.d (.str (sW wn))) (Zt C ie k2 pt (lo+1) (hi+1) o (X3 x wn)),.con 1217 (.d (.int a)) (Zt C ie (k2+1) pt (lo+1) (hi+1) o (X3 x wn)),.con 1217 (.d (.int b)) (Zt C ie (k2+1+1) pt (lo+1) (hi+1) o (X3 x wn)),.con 1218 (.d (.int (lo+b+1))) (Zt C ie (k2+1+1) (lo+b+1) (lo+1) (hi+1) o (X3 x wn))] .next ⟨JR (T' C) lo hi t ib (sW wn) (lo+b) (a - 1),Zt C ie (k2+1+1) (lo+b+1) (lo+1) (hi+1) o (X3 x wn),[]⟩
  (MW G (n+13) pL FJ (Mp (T' C) lo hi t ib) (Zt C ie k pt (lo+1) (hi+1) o [x]) (.loc 29) (Zt C ie k2 pt (lo+1) (hi+1) o (X3 x wn))/\Z5 G (n+13) (.bi .UQ) [.d (.str ""),.loc 29] (Zt C ie k2 pt (lo+1) (hi+1) o (X3 x wn)) (.d (.str (sW wn))) (Zt C ie k2 pt (lo+1) (hi+1) o (X3 x wn))/\
  Z5 G (n+13) (.Z8 (.ref 1589)) [.loc 7,.d (.int 5)] (Zt C ie k2 pt (lo+1) (hi+1) o (X3 x wn)) (.d (.int a)) (Zt C ie (k2+1) pt (lo+1) (hi+1) o (X3 x wn))/\Z5 G (n+13) (.Z8 (.ref 1589)) [.loc 7,.d (.int (hi - lo+1))] (Zt C ie (k2+1) pt (lo+1) (hi+1) o (X3 x wn)) (.d (.int b)) (Zt C ie (k2+1+1) pt (lo+1) (hi+1) o (X3 x wn))/\
  Z5 G (n+13) (.Z8 (.ref 1127)) [.loc 10,.d (.int (lo+b+1))] (Zt C ie (k2+1+1) pt (lo+1) (hi+1) o (X3 x wn)) (.d (.int (lo+b+1))) (Zt C ie (k2+1+1) (lo+b+1) (lo+1) (hi+1) o (X3 x wn))/\
  Zk.next= .next/\(⟨JR (T' C) lo hi t ib (sW wn) (lo+b) (a - 1),Zt C ie (k2+1+1) (lo+b+1) (lo+1) (hi+1) o (X3 x wn),[]⟩:St)=⟨JR (T' C) lo hi t ib (sW wn) (lo+b) (a - 1),Zt C ie (k2+1+1) (lo+b+1) (lo+1) (hi+1) o (X3 x wn),[]⟩) (by rfl') ⟨e,j,d0,d1,g,rfl,rfl⟩ ?_
 exact kk
end
theorem Mn {wn:List Nat}:(cW wn).length=wn.length:=gn ..
theorem Ld {tn wn:List Nat}{lo hi:Int}{s:Int}(hT:Wx tn) (hW:Ww false wn) (h0:0<=lo) (h1:lo<=s) (h2:s+wn.length<=hi) (h3:hi<=tn.length):Zo (ZV (cW tn) (lo+1) (hi+1)) (s+1) (cW wn)=V6 false tn wn s:=by
 obtain ⟨t,rfl⟩:=bu (gf h0 h1)
 exact Gj hT hW h1 h2 h3
theorem NI {tn wn:List Nat}{lo hi lim:Int}{s:Int}(hT:Wx tn) (hW:Ww true wn) (h0:0<=lo) (h1:lo<=s) (h2:s+wn.length<=hi) (h3:hi<=tn.length) (h4:s+wn.length+1<=lim):ZG (ZV (cW tn) (lo+1) (hi+1)) lim ((cW wn).map Yg) (s+1)=V6 true tn wn s:=by
 obtain ⟨t,rfl⟩:=bu (gf h0 h1)
 exact JT hT hW h1 h2 h3 h4
theorem Qi {f:Int->Int}{lim s:Int}{wn:List Nat}(h1:1<=wn.length) (h:lim<s+wn.length):ZG f lim ((cW wn).map Yg) s=false:=by
 cases e:ZG f lim ((cW wn).map Yg) s with
 |false=>rfl
 |true=>
  have:=UZ (by simpa using h1) e
  simp at this
  omega
section
variable {tn wn:List Nat}{lo hi k q:Int}{ie:Bool}
theorem zK (hT:Wx tn) (hW:Ww false wn) (h0:0<=lo) (h3:hi<=tn.length) (hk:0<k) (hq:lo<=q/\q<=hi):RA (ZV (cW tn) (lo+1) (hi+1)) (hi+1) (cW wn) (q+1)=(Yz (V6 false tn wn) lo hi wn.length k q).map (·+1):=by
 unfold RA Yz Ra Pb
 rw[decide_eq_true hk,Li hk]
 dsimp only
 have e:(hi+1 - ((cW wn).length:Int)+1 - (q+1)).toNat=(hi - wn.length+1 - q).toNat+0:=congrArg Int.toNat (by rw[Mn];omega)
 rw[e]
 exact up_eq (fun s a b=>Ld hT hW h0 (gf hq.1 a) (QR a b) h3) (fun s a b=>absurd b (by rw[show ((0:Nat):Int)=0 from rfl,cj];exact fc.mpr a))
theorem zJ (hT:Wx tn) (hW:Ww false wn) (h0:0<=lo) (h3:hi<=tn.length) (hk:¬0<k) (hq:lo<=q/\q<=hi):Rz (ZV (cW tn) (lo+1) (hi+1)) (lo+1) (cW wn) (q+1)=(Yz (V6 false tn wn) lo hi wn.length k q).map (·+1):=by
 unfold Rz Yz Ra Pb
 rw[decide_eq_false hk,Lh hk]
 dsimp only
 have e:(q+1 - ((cW wn).length:Int)- (lo+1 - 1)).toNat=(q - wn.length+1 - lo).toNat:=congrArg Int.toNat (by rw[Mn];omega)
 rw[e]
 by_cases hn:0<=q - wn.length+1 - lo
 ·rw[show q+1 - ((cW wn).length:Int)=lo+((q - wn.length+1 - lo).toNat:Int) by rw[cM hn,Mn];clear e hn;omega]
  exact Gl fun s a b=>Ld hT hW h0 a (gf (QR a b) hq.2) h3
 ·rw[aK (cH (Int.not_le.mp hn))];rfl
theorem Dq (hT:Wx tn) (hW:Ww true wn) (h0:0<=lo) (h3:hi<=tn.length) (h1:1<=wn.length) (hk:0<k) (hq:lo<=q/\q<=hi):VF (ZV (cW tn) (lo+1) (hi+1)) (hi+1) ((cW wn).map Yg) (q+1)=(Yz (V6 true tn wn) lo hi wn.length k q).map (·+1):=by
 unfold VF Yz Ra Pb
 rw[decide_eq_true hk,Li hk]
 dsimp only
 have e:(hi+1+1 - (q+1)).toNat=(hi - wn.length+1 - q).toNat+((hi+1 - q).toNat - (hi - wn.length+1 - q).toNat):=(congrArg Int.toNat (by clear hq;omega)).trans (Nat.add_sub_cancel' (Int.toNat_le_toNat (by clear hq;omega))).symm
 rw[e]
 exact up_eq (fun s a b=>NI hT hW h0 (gf hq.1 a) (QR a b) h3 (aF (QR a b) 1)) (fun s a b=>Qi h1 (by have:=B6 a;clear a b;omega))
theorem Dp (hT:Wx tn) (hW:Ww true wn) (h0:0<=lo) (h3:hi<=tn.length) (h1:1<=wn.length) (hk:¬0<k) (hq:lo<=q/\q<=hi):VE (ZV (cW tn) (lo+1) (hi+1)) (lo+1) ((cW wn).map Yg) (q+1)=(Yz (V6 true tn wn) lo hi wn.length k q).map (·+1):=by
 unfold VE Yz Ra Pb
 rw[decide_eq_false hk,Lh hk]
 dsimp only
 have ov:∀s,q - wn.length+1<s->ZG (ZV (cW tn) (lo+1) (hi+1)) (q+1) ((cW wn).map Yg) s=false:=fun s h=>Qi h1 (by clear hq;omega)
 by_cases hn:0<=q - wn.length+1 - lo
 ·have e:(q+1 - (lo+1 - 1)).toNat=(q - wn.length+1 - lo).toNat+wn.length:=by rw[<-Int.toNat_add_nat hn];exact congrArg Int.toNat (by clear hq hn;omega)
  have e2:q+1=(lo+((q - wn.length+1 - lo).toNat:Int))+(wn.length:Int):=by rw[cM hn];clear e hn;omega
  rw[e]
  refine Eq.trans (b:=Zi (fun s=>ZG (ZV (cW tn) (lo+1) (hi+1)) (q+1) ((cW wn).map Yg) s) ((lo+((q - wn.length+1 - lo).toNat:Int))+(wn.length:Int)) ((q - wn.length+1 - lo).toNat+wn.length)) (by rw[<-e2]) ?_
  rw[O8 fun s a b=>ov s (by rw[cM hn] at a;clear e e2 hn b;omega)]
  exact Gl fun s a b=>NI hT hW h0 a (gf (QR a b) hq.2) h3 (aF (QR a b) 1)
 ·rw[aK (cH (Int.not_le.mp hn))]
  have z:=O8 (Q:=fun s=>ZG (ZV (cW tn) (lo+1) (hi+1)) (q+1) ((cW wn).map Yg) s) (b:=lo) (n:=0) (j:=(q+1 - lo).toNat) (fun s a b=>ov s (by clear b hq;omega))
  rw[bO,show lo+((q+1 - lo).toNat:Int)=q+1 by rw[cM (by have:=hq.1;omega)];omega] at z
  rw[show q+1 - (lo+1 - 1)=q+1 - lo by rw[Int.add_sub_cancel]]
  exact z
theorem NH {P:Int->Bool}{m k q s:Int}(hm:0<=m) (hq:lo<=q/\q<=hi) (h:Yz P lo hi m k q=some s):lo<=Vz k m s/\Vz k m s<=hi:=by
 have:=Pa h
 unfold Ra Pb at this
 unfold Vz
 cases e:decide (0<k)<;>rw[e] at this
 ·exact⟨this.1,gf (gf (Int.le_add_of_nonneg_right hm) this.2) hq.2⟩
 ·exact⟨gf hq.1 (gf this.1 (Int.le_add_of_nonneg_right hm)),this.2⟩
theorem zI {p:Int}(hT:Wx tn) (hW:Ww ie wn) (h0:0<=lo) (h3:hi<=tn.length) (h1:1<=wn.length) (hp:lo<=p/\p<=hi) (hk:k≠0):tT ie (ZV (cW tn) (lo+1) (hi+1)) (lo+1) (hi+1) (cW wn) k (p+1)=(NN ie tn wn lo hi p k).map (·+1):=by
 have hm:(0:Int)<=wn.length:=aE _
 have cl:(cW wn).length=wn.length:=by simp
 have cr:((cW wn).map Yg).length=wn.length:=by simp
 unfold tT NN sM sN
 by_cases k0:0<k
 ·have en:(Uy k - 0).toNat=k.toNat:=by unfold Uy;rw[decide_eq_false (fc.mpr (cH k0)),aM]
  have nx:Vz k wn.length=fun s:Int=>s+(wn.length:Int):=by unfold Vz;rw[decide_eq_true k0]
  rw[decide_eq_true k0,en]
  cases ie with
  |true=>
   dsimp only
   rw[cr]
   exact Wy (F1:=VF (ZV (cW tn) (lo+1) (hi+1)) (hi+1) ((cW wn).map Yg)) (F2:=Yz (V6 true tn wn) lo hi wn.length k) (N1:=fun s:Int=>s+(wn.length:Int)) (N2:=Vz k wn.length) (I:=fun q=>lo<=q/\q<=hi) (fun q hq=>Dq hT hW h0 h3 h1 k0 hq) (fun q s hq e=>⟨by rw[congrFun nx s];exact ak _ _ _,NH hm hq e⟩) (l:=none) hp
  |false=>
   dsimp only
   rw[cl]
   exact Wy (F1:=RA (ZV (cW tn) (lo+1) (hi+1)) (hi+1) (cW wn)) (F2:=Yz (V6 false tn wn) lo hi wn.length k) (N1:=fun s:Int=>s+(wn.length:Int)) (N2:=Vz k wn.length) (I:=fun q=>lo<=q/\q<=hi) (fun q hq=>zK hT hW h0 h3 k0 hq) (fun q s hq e=>⟨by rw[congrFun nx s];exact ak _ _ _,NH hm hq e⟩) (l:=none) hp
 ·have en:(Uy k - 0).toNat=(-k).toNat:=by unfold Uy;rw[decide_eq_true (Int.lt_iff_le_and_ne.mpr ⟨fc.mp k0,hk⟩),aM]
  have nx:Vz k wn.length=fun s:Int=>s:=by unfold Vz;rw[decide_eq_false k0]
  rw[decide_eq_false k0,en]
  cases ie with
  |true=>
   dsimp only
   exact Wy (F1:=VE (ZV (cW tn) (lo+1) (hi+1)) (lo+1) ((cW wn).map Yg)) (F2:=Yz (V6 true tn wn) lo hi wn.length k) (N1:=fun s:Int=>s) (N2:=Vz k wn.length) (I:=fun q=>lo<=q/\q<=hi) (fun q hq=>Dp hT hW h0 h3 h1 k0 hq) (fun q s hq e=>⟨by rw[congrFun nx s],NH hm hq e⟩) (l:=none) hp
  |false=>
   dsimp only
   exact Wy (F1:=Rz (ZV (cW tn) (lo+1) (hi+1)) (lo+1) (cW wn)) (F2:=Yz (V6 false tn wn) lo hi wn.length k) (N1:=fun s:Int=>s) (N2:=Vz k wn.length) (I:=fun q=>lo<=q/\q<=hi) (fun q hq=>zJ hT hW h0 h3 k0 hq) (fun q s hq e=>⟨by rw[congrFun nx s],NH hm hq e⟩) (l:=none) hp
theorem NG {P:Int->Bool}{m:Int}(hm:0<=m):∀{n:Nat}{p s:Int}{l:Option Int},(lo<=p/\p<=hi)->(∀s,l=some s->lo<=s/\s+m<=hi)->ZZ (Yz P lo hi m k) (Vz k m) n p l=some s->lo<=s/\s+m<=hi
 |0,p,s,l,hp,hl,h=>hl s h
 |n+1,p,s,l,hp,hl,h=>by
  unfold ZZ at h
  cases e:Yz P lo hi m k p with
  |none=>rw[e] at h;cases h
  |some s'=>
   rw[e] at h
   refine NG hm (NH hm hp e) (fun x hx=> ?_) h
   cases hx
   have:=Pa e
   unfold Ra Pb at this
   cases d:decide (0<k)<;>rw[d] at this
   ·exact⟨this.1,gf this.2 hp.2⟩
   ·exact⟨gf hp.1 this.1,this.2⟩
end
section
variable {G:Gm}{C:LC}{n:Nat}{K:Zk->St->Prop}{lo hi t k p c pt:Int}{ie ib:Bool}{wn:List Nat}{o:Option (Int×Int)}{x:AO}
theorem zH {d:AV}(q:Z5 G (n+13) (.Z8 (.ref 1615)) [.d (.str (T' C)),.d (.int lo),.d (.int hi),.d (.int p),.d (.str (sW wn)),.d (.bool ie),.d (.int (U_ ib c))] (Zt C ie k pt (lo+1) (hi+1) o (X3 x wn)) d (Zt C ie k pt (lo+1) (hi+1) o (X3 x wn))) (hT:ZY G T0)
  (kk:K .next ⟨Rj (T' C) lo hi t ib (sW wn) p c d,Zt C ie k pt (lo+1) (hi+1) o (X3 x wn),[]⟩):X0 G (n+13) pL [TJ 4] ⟨JR (T' C) lo hi t ib (sW wn) p c,Zt C ie k pt (lo+1) (hi+1) o (X3 x wn),[]⟩ K Zn:=by
 cases ib with
 |true=>
  refine Wz (F:=20) hT [.t 1219,.con 1219 d (Zt C ie k pt (lo+1) (hi+1) o (X3 x wn))] .next ⟨Rj (T' C) lo hi t true (sW wn) p c d,Zt C ie k pt (lo+1) (hi+1) o (X3 x wn),[]⟩ (true=true/\Z5 G (n+13) (.Z8 (.ref 1615)) [.d (.str (T' C)),.d (.int lo),.d (.int hi),.d (.int p),.d (.str (sW wn)),.d (.bool ie),.d (.int (0 - c))] (Zt C ie k pt (lo+1) (hi+1) o (X3 x wn)) d (Zt C ie k pt (lo+1) (hi+1) o (X3 x wn))/\Zk.next= .next/\(⟨Rj (T' C) lo hi t true (sW wn) p c d,Zt C ie k pt (lo+1) (hi+1) o (X3 x wn),[]⟩:St)=⟨Rj (T' C) lo hi t true (sW wn) p c d,Zt C ie k pt (lo+1) (hi+1) o (X3 x wn),[]⟩) (by rfl') ⟨rfl,q,rfl,rfl⟩ ?_
  exact kk
 |false=>
  refine Wz (F:=20) hT [.f 1219,.con 1219 d (Zt C ie k pt (lo+1) (hi+1) o (X3 x wn))] .next ⟨Rj (T' C) lo hi t false (sW wn) p c d,Zt C ie k pt (lo+1) (hi+1) o (X3 x wn),[]⟩ (false=false/\Z5 G (n+13) (.Z8 (.ref 1615)) [.d (.str (T' C)),.d (.int lo),.d (.int hi),.d (.int p),.d (.str (sW wn)),.d (.bool ie),.d (.int c)] (Zt C ie k pt (lo+1) (hi+1) o (X3 x wn)) d (Zt C ie k pt (lo+1) (hi+1) o (X3 x wn))/\Zk.next= .next/\(⟨Rj (T' C) lo hi t false (sW wn) p c d,Zt C ie k pt (lo+1) (hi+1) o (X3 x wn),[]⟩:St)=⟨Rj (T' C) lo hi t false (sW wn) p c d,Zt C ie k pt (lo+1) (hi+1) o (X3 x wn),[]⟩) (by rfl') ⟨rfl,q,rfl,rfl⟩ ?_
  exact kk
abbrev Vh (T:Str) (lo hi t:Int) (ib:Bool) (W:Str) (p c:Int) (d r:AV) (g:List (Str×AV)):List (Str×AV):=List.append (Rj T lo hi t ib W p c d) (((("kept" :Str),AV.loc 30):Str×AV)::((("told_here" :Str),r):Str×AV)::g)
abbrev sr (G:Gm) (n:Nat) (C:LC) (ie:Bool) (k p lo hi:Int) (o o':Option (Int×Int)) (x:AO) (wn:List Nat):Prop:=Z5 G (n+13) (.Z8 (.ref 1547)) [.loc 26] (Zt C ie k p (lo+1) (hi+1) o' (X4 x wn o)) (.loc 31) (Zt C ie k p (lo+1) (hi+1) o' (X5 x wn o o'))
theorem zG (hT:ZY G T0) (hc:c=0) (q:Z5 G (n+13) (.Z8 (.ref 1620)) [.loc 16,.d (.str (sW wn)),.d (.bool ie),.d (.bool ib),.d (.int c)] (Zt C ie k (p+1) (lo+1) (hi+1) o (X4 x wn o)) (.d .none) (Zt C ie k (p+1) (lo+1) (hi+1) o (X4 x wn o)))
  (kk:K .next ⟨Vh (T' C) lo hi t ib (sW wn) p c (.d .none) (.d .none) [],Zt C ie k (p+1) (lo+1) (hi+1) o (X5 x wn o o),[]⟩):X0 G (n+13) pL [TJ 5,TJ 6,TJ 7] ⟨Rj (T' C) lo hi t ib (sW wn) p c (.d .none),Zt C ie k (p+1) (lo+1) (hi+1) o (X3 x wn),[]⟩ K Zn:=by
 have a3:=Mr (G:=G) (C:=C) (n:=n+12) (b:=ie) (k:=k) (pt:=p+1) (bz:=lo+1) (zv:=hi+1) (o:=o) (x:=x) (y:= .gone) (z:=Zy wn) hT
 have a4:=Mq (G:=G) (C:=C) (n:=n+12) (b:=ie) (k:=k) (pt:=p+1) (bz:=lo+1) (zv:=hi+1) (o:=o) (x:=x) (y:= .gone) (z:=Zy wn) (u:= .Z_ (NJ o)) hT
 have c0:decide (c=0)=true:=decide_eq_true hc
 refine Wz (F:=20) hT [.con 1220 (.loc 30) (Zt C ie k (p+1) (lo+1) (hi+1) o (X4 x wn o)),.con 1221 (.d .none) (Zt C ie k (p+1) (lo+1) (hi+1) o (X4 x wn o)),.t 1222,.t 1223,.f 1223,.f 1223,.con 1225 (.loc 31) (Zt C ie k (p+1) (lo+1) (hi+1) o (X5 x wn o o)),.f 1225] .next ⟨Vh (T' C) lo hi t ib (sW wn) p c (.d .none) (.d .none) [],Zt C ie k (p+1) (lo+1) (hi+1) o (X5 x wn o o),[]⟩
  (Z5 G (n+13) (.Z8 (.ref 1547)) [.loc 26] (Zt C ie k (p+1) (lo+1) (hi+1) o (X3 x wn)) (.loc 30) (Zt C ie k (p+1) (lo+1) (hi+1) o (X4 x wn o))/\Z5 G (n+13) (.Z8 (.ref 1620)) [.loc 16,.d (.str (sW wn)),.d (.bool ie),.d (.bool ib),.d (.int c)] (Zt C ie k (p+1) (lo+1) (hi+1) o (X4 x wn o)) (.d .none) (Zt C ie k (p+1) (lo+1) (hi+1) o (X4 x wn o))/\
  decide (c=0)=true/\decide (c=0)=true/\(!true)=false/\(!decide (p+1=p+1))=false/\sr G n C ie k (p+1) lo hi o o x wn/\(!decide (NJ o=NJ o))=false/\Zk.next= .next/\(⟨Vh (T' C) lo hi t ib (sW wn) p c (.d .none) (.d .none) [],Zt C ie k (p+1) (lo+1) (hi+1) o (X5 x wn o o),[]⟩:St)=⟨Vh (T' C) lo hi t ib (sW wn) p c (.d .none) (.d .none) [],Zt C ie k (p+1) (lo+1) (hi+1) o (X5 x wn o o),[]⟩) (by rfl') ⟨a3,q,c0,c0,rfl,by rw[decide_eq_true rfl];rfl,a4,by rw[decide_eq_true rfl];rfl,rfl,rfl⟩ ?_
 exact kk
theorem zF (hT:ZY G T0) (hc:c≠0) (q:Z5 G (n+13) (.Z8 (.ref 1620)) [.loc 16,.d (.str (sW wn)),.d (.bool ie),.d (.bool ib),.d (.int c)] (Zt C ie k (p+1) (lo+1) (hi+1) o (X4 x wn o)) (.d (.str "search-failed")) (Zt C ie k (p+1) (lo+1) (hi+1) o (X4 x wn o)))
  (kk:K .next ⟨Vh (T' C) lo hi t ib (sW wn) p c (.d .none) (.d (.str "search-failed")) [],Zt C ie k (p+1) (lo+1) (hi+1) o (X5 x wn o o),[]⟩):X0 G (n+13) pL [TJ 5,TJ 6,TJ 7] ⟨Rj (T' C) lo hi t ib (sW wn) p c (.d .none),Zt C ie k (p+1) (lo+1) (hi+1) o (X3 x wn),[]⟩ K Zn:=by
 have a3:=Mr (G:=G) (C:=C) (n:=n+12) (b:=ie) (k:=k) (pt:=p+1) (bz:=lo+1) (zv:=hi+1) (o:=o) (x:=x) (y:= .gone) (z:=Zy wn) hT
 have a4:=Mq (G:=G) (C:=C) (n:=n+12) (b:=ie) (k:=k) (pt:=p+1) (bz:=lo+1) (zv:=hi+1) (o:=o) (x:=x) (y:= .gone) (z:=Zy wn) (u:= .Z_ (NJ o)) hT
 have c0:decide (c=0)=false:=decide_eq_false hc
 refine Wz (F:=20) hT [.con 1220 (.loc 30) (Zt C ie k (p+1) (lo+1) (hi+1) o (X4 x wn o)),.con 1221 (.d (.str "search-failed")) (Zt C ie k (p+1) (lo+1) (hi+1) o (X4 x wn o)),.f 1222,.f 1223,.f 1223,.f 1223,.con 1225 (.loc 31) (Zt C ie k (p+1) (lo+1) (hi+1) o (X5 x wn o o)),.f 1225] .next ⟨Vh (T' C) lo hi t ib (sW wn) p c (.d .none) (.d (.str "search-failed")) [],Zt C ie k (p+1) (lo+1) (hi+1) o (X5 x wn o o),[]⟩
  (Z5 G (n+13) (.Z8 (.ref 1547)) [.loc 26] (Zt C ie k (p+1) (lo+1) (hi+1) o (X3 x wn)) (.loc 30) (Zt C ie k (p+1) (lo+1) (hi+1) o (X4 x wn o))/\Z5 G (n+13) (.Z8 (.ref 1620)) [.loc 16,.d (.str (sW wn)),.d (.bool ie),.d (.bool ib),.d (.int c)] (Zt C ie k (p+1) (lo+1) (hi+1) o (X4 x wn o)) (.d (.str "search-failed")) (Zt C ie k (p+1) (lo+1) (hi+1) o (X4 x wn o))/\
  decide (c=0)=false/\decide (c=0)=false/\(!sq "search-failed" "search-failed")=false/\(!decide (p+1=p+1))=false/\sr G n C ie k (p+1) lo hi o o x wn/\(!decide (NJ o=NJ o))=false/\Zk.next= .next/\(⟨Vh (T' C) lo hi t ib (sW wn) p c (.d .none) (.d (.str "search-failed")) [],Zt C ie k (p+1) (lo+1) (hi+1) o (X5 x wn o o),[]⟩:St)=⟨Vh (T' C) lo hi t ib (sW wn) p c (.d .none) (.d (.str "search-failed")) [],Zt C ie k (p+1) (lo+1) (hi+1) o (X5 x wn o o),[]⟩) (by rfl') ⟨a3,q,c0,c0,by rfl',by rw[decide_eq_true rfl];rfl,a4,by rw[decide_eq_true rfl];rfl,rfl,rfl⟩ ?_
 exact kk
def tR (b:Bool) (s m:Int):Int:=match b with|true=>s|false=>s+m
theorem zE {s p':Int}{b:Bool}(hT:ZY G T0) (hc:c≠0) (hb:UM ib (decide (0<c))=b) (hp:p'=tR b s wn.length+1) (q:Z5 G (n+13) (.Z8 (.ref 1620)) [.loc 16,.d (.str (sW wn)),.d (.bool ie),.d (.bool ib),.d (.int c)] (Zt C ie k (p+1) (lo+1) (hi+1) o (X4 x wn o)) (.d .none) (Zt C ie k p' (lo+1) (hi+1) (some (s+1,s+1+wn.length)) (X4 x wn o)))
  (kk:∀g,K .next ⟨Vh (T' C) lo hi t ib (sW wn) p c (.d (.tup [.int s,.int (s+wn.length)])) (.d .none) g,Zt C ie k p' (lo+1) (hi+1) (some (s+1,s+1+wn.length)) (X5 x wn o (some (s+1,s+1+wn.length))++ [.Z_ [s+1,s+wn.length+1]]),[]⟩):X0 G (n+13) pL [TJ 5,TJ 6,TJ 7] ⟨Rj (T' C) lo hi t ib (sW wn) p c (.d (.tup [.int s,.int (s+wn.length)])),Zt C ie k (p+1) (lo+1) (hi+1) o (X3 x wn),[]⟩ K Zn:=by
 have a3:=Mr (G:=G) (C:=C) (n:=n+12) (b:=ie) (k:=k) (pt:=p+1) (bz:=lo+1) (zv:=hi+1) (o:=o) (x:=x) (y:= .gone) (z:=Zy wn) hT
 have a4:=Mq (G:=G) (C:=C) (n:=n+12) (b:=ie) (k:=k) (pt:=p') (bz:=lo+1) (zv:=hi+1) (o:=some (s+1,s+1+wn.length)) (x:=x) (y:= .gone) (z:=Zy wn) (u:= .Z_ (NJ o)) hT
 have c0:decide (c=0)=false:=decide_eq_false hc
 have ee:(!decide (NJ (some (s+1,s+1+(wn.length:Int)))= [s+1,s+wn.length+1]))=false:=by rw[decide_eq_true (by show [s+1,s+1+(wn.length:Int)]=_;rw[show s+1+(wn.length:Int)=s+wn.length+1 by omega])];rfl
 cases b with
 |true=>
  refine Wz (F:=20) hT [.con 1220 (.loc 30) (Zt C ie k (p+1) (lo+1) (hi+1) o (X4 x wn o)),.con 1221 (.d .none) (Zt C ie k p' (lo+1) (hi+1) (some (s+1,s+1+wn.length)) (X4 x wn o)),.f 1222,.f 1222,.f 1229,.t 1229,.f 1229,.con 1231 (.loc 31) (Zt C ie k p' (lo+1) (hi+1) (some (s+1,s+1+wn.length)) (X5 x wn o (some (s+1,s+1+wn.length)))),.f 1231] .next ⟨Vh (T' C) lo hi t ib (sW wn) p c (.d (.tup [.int s,.int (s+wn.length)])) (.d .none) [("goes_back",.d (.bool (UM ib (decide (0<c)))))],Zt C ie k p' (lo+1) (hi+1) (some (s+1,s+1+wn.length)) (X5 x wn o (some (s+1,s+1+wn.length))++ [.Z_ [s+1,s+wn.length+1]]),[]⟩
   (Z5 G (n+13) (.Z8 (.ref 1547)) [.loc 26] (Zt C ie k (p+1) (lo+1) (hi+1) o (X3 x wn)) (.loc 30) (Zt C ie k (p+1) (lo+1) (hi+1) o (X4 x wn o))/\Z5 G (n+13) (.Z8 (.ref 1620)) [.loc 16,.d (.str (sW wn)),.d (.bool ie),.d (.bool ib),.d (.int c)] (Zt C ie k (p+1) (lo+1) (hi+1) o (X4 x wn o)) (.d .none) (Zt C ie k p' (lo+1) (hi+1) (some (s+1,s+1+wn.length)) (X4 x wn o))/\
   decide (c=0)=false/\false=false/\(!true)=false/\UM ib (decide (0<c))=true/\(!decide (p'=s+1))=false/\sr G n C ie k p' lo hi o (some (s+1,s+1+wn.length)) x wn/\(!decide (NJ (some (s+1,s+1+(wn.length:Int)))= [s+1,s+wn.length+1]))=false/\Zk.next= .next/\(⟨Vh (T' C) lo hi t ib (sW wn) p c (.d (.tup [.int s,.int (s+wn.length)])) (.d .none) [("goes_back",.d (.bool (UM ib (decide (0<c)))))],Zt C ie k p' (lo+1) (hi+1) (some (s+1,s+1+wn.length)) (X5 x wn o (some (s+1,s+1+wn.length))++ [.Z_ [s+1,s+wn.length+1]]),[]⟩:St)=⟨Vh (T' C) lo hi t ib (sW wn) p c (.d (.tup [.int s,.int (s+wn.length)])) (.d .none) [("goes_back",.d (.bool (UM ib (decide (0<c)))))],Zt C ie k p' (lo+1) (hi+1) (some (s+1,s+1+wn.length)) (X5 x wn o (some (s+1,s+1+wn.length))++ [.Z_ [s+1,s+wn.length+1]]),[]⟩) (by rfl') ⟨a3,q,c0,rfl,rfl,hb,by rw[decide_eq_true (show p'=s+1 from hp)];rfl,a4,ee,rfl,rfl⟩ ?_
  exact kk _
 |false=>
  refine Wz (F:=20) hT [.con 1220 (.loc 30) (Zt C ie k (p+1) (lo+1) (hi+1) o (X4 x wn o)),.con 1221 (.d .none) (Zt C ie k p' (lo+1) (hi+1) (some (s+1,s+1+wn.length)) (X4 x wn o)),.f 1222,.f 1222,.f 1229,.f 1229,.f 1229,.con 1231 (.loc 31) (Zt C ie k p' (lo+1) (hi+1) (some (s+1,s+1+wn.length)) (X5 x wn o (some (s+1,s+1+wn.length)))),.f 1231] .next ⟨Vh (T' C) lo hi t ib (sW wn) p c (.d (.tup [.int s,.int (s+wn.length)])) (.d .none) [("goes_back",.d (.bool (UM ib (decide (0<c)))))],Zt C ie k p' (lo+1) (hi+1) (some (s+1,s+1+wn.length)) (X5 x wn o (some (s+1,s+1+wn.length))++ [.Z_ [s+1,s+wn.length+1]]),[]⟩
   (Z5 G (n+13) (.Z8 (.ref 1547)) [.loc 26] (Zt C ie k (p+1) (lo+1) (hi+1) o (X3 x wn)) (.loc 30) (Zt C ie k (p+1) (lo+1) (hi+1) o (X4 x wn o))/\Z5 G (n+13) (.Z8 (.ref 1620)) [.loc 16,.d (.str (sW wn)),.d (.bool ie),.d (.bool ib),.d (.int c)] (Zt C ie k (p+1) (lo+1) (hi+1) o (X4 x wn o)) (.d .none) (Zt C ie k p' (lo+1) (hi+1) (some (s+1,s+1+wn.length)) (X4 x wn o))/\
   decide (c=0)=false/\false=false/\(!true)=false/\UM ib (decide (0<c))=false/\(!decide (p'=s+wn.length+1))=false/\sr G n C ie k p' lo hi o (some (s+1,s+1+wn.length)) x wn/\(!decide (NJ (some (s+1,s+1+(wn.length:Int)))= [s+1,s+wn.length+1]))=false/\Zk.next= .next/\(⟨Vh (T' C) lo hi t ib (sW wn) p c (.d (.tup [.int s,.int (s+wn.length)])) (.d .none) [("goes_back",.d (.bool (UM ib (decide (0<c)))))],Zt C ie k p' (lo+1) (hi+1) (some (s+1,s+1+wn.length)) (X5 x wn o (some (s+1,s+1+wn.length))++ [.Z_ [s+1,s+wn.length+1]]),[]⟩:St)=⟨Vh (T' C) lo hi t ib (sW wn) p c (.d (.tup [.int s,.int (s+wn.length)])) (.d .none) [("goes_back",.d (.bool (UM ib (decide (0<c)))))],Zt C ie k p' (lo+1) (hi+1) (some (s+1,s+1+wn.length)) (X5 x wn o (some (s+1,s+1+wn.length))++ [.Z_ [s+1,s+wn.length+1]]),[]⟩) (by rfl') ⟨a3,q,c0,rfl,rfl,hb,by rw[decide_eq_true (show p'=s+wn.length+1 from hp)];rfl,a4,ee,rfl,rfl⟩ ?_
  exact kk _
theorem JQ {sc:List Int}{k:Int}{S:Str}(h:0<S.length):Xb sc k S∈S.cps.toList:=by
 have r:=Y5 (sc:=sc) (k:=k) (many:=(S.length:Int)) (by omega)
 have e:S.cps.toList.length=S.length:=dJ
 unfold Xb
 rw[Pw r.1,fG,f9 (by omega)]
 exact aU _
theorem Vo {sc:List Int}{S:Str}{k:Int}(h:0<S.length):∀{j c:Nat},c∈Y_ sc S k j->c∈S.cps.toList
 |0,c,hc=>by cases hc
 |j+1,c,hc=>by
  rcases aW.mp hc with hc|hc
  ·exact Vo h hc
  ·rw[fK.mp hc];exact JQ h
theorem oA:S6.cps.toList= [97,97,65,98,66,10]:=by rfl'
theorem oz:(Sx true).cps.toList= [97,65,98,46]:=by rfl'
theorem ow:(Sx false).cps.toList= [97,65,98]:=by rfl'
theorem JP {sc:List Int}{k:Int}{j:Nat}:Wx (Y_ sc S6 k j):=fun t h=>by
 have:=Vo (by decide) h
 rw[oA] at this
 simp at this
 omega
theorem JO {sc:List Int}{k:Int}{j:Nat}:Ww ie (Y_ sc (Sx ie) k j):=fun t h=>by
 cases ie with
 |true=>
  have:=Vo (by decide) h
  rw[oz] at this
  simp at this
  have:(t=97\/t=65\/t=98)\/t=46:=by omega
  exact this.imp id fun e=>⟨rfl,e⟩
 |false=>
  have:=Vo (by decide) h
  rw[ow] at this
  simp at this
  exact .inl (by omega)
theorem zD (h:Ww ie wn):∀w∈cW wn,oF ie w:=fun w hw=>by
 obtain ⟨t,ht,rfl⟩:=dX.mp hw
 have:=h t ht
 cases ie with
 |true=>
  show Qq (t:Int)
  unfold Qq
  omega
 |false=>
  show isLt (t:Int)
  unfold isLt
  rcases this with h|h
  ·omega
  ·cases h.1
theorem Dn (h:Ww ie wn):∀c∈wn,Wh c:=fun w hw=>by have:=h w hw;unfold Wh;omega
theorem Dm {tn:List Nat}(h:Wx tn):∀c∈tn,Wh c:=fun w hw=>by have:=h w hw;unfold Wh;omega
theorem Dl {tn:List Nat}(h:Wx tn):∀u∈cW tn,isLt u:=fun w hw=>by
 obtain ⟨t,ht,rfl⟩:=dX.mp hw
 have:=h t ht
 show isLt (t:Int)
 unfold isLt;omega
structure Mm (C:LC):Prop where
 sc:C.sc.length<=100
 tn:C.tn.length<=12
 lt:Wx C.tn
 hh:Holds (cW C.tn) 1 ((cW C.tn).length+1) (cW C.tn).length C.cs
 ge:C.ge=C.cs.length
theorem Mm.asks (a:Mm C) (hlo:0<=lo/\lo<=hi) (hhi:hi<=C.tn.length) (hp:lo<=p/\p<=hi) {kk:Int}(hk: -3<=kk/\kk<=3):GF (cW C.tn) (p+1) (lo+1) (hi+1) (cW C.tn).length C.cs kk:=by
 have h:=a.tn
 have e:(cW C.tn).length=C.tn.length:=by simp
 exact⟨⟨by omega,by omega,rfl,a.hh.c,a.hh.s⟩,Dl a.lt,⟨by omega,by omega,by omega⟩,⟨by omega,by omega⟩,hk⟩
theorem Dk (hc:c≠0):UM ib (decide (0<c))= !decide (0<U_ ib c):=by
 unfold U_
 cases ib with
 |true=>by_cases h:0<c<;>simp[h,UM]<;>omega
 |false=>by_cases h:0<c<;>simp[h,UM]
def B_ (C:LC) (lo hi k:Int) (x:AO):Zk->St->Prop:=fun fl σ=>fl= .next/\∃(b:Bool) (k' p':Int) (o':Option (Int×Int)) (t:Int) (ib:Bool) (W:Str) (p c:Int) (d r:AV) (g:List (Str×AV)) (X:List AO),(k<=k'/\k'<=k+10)/\σ=⟨Vh (T' C) lo hi t ib W p c d r g,Zt C b k' p' (lo+1) (hi+1) o' (x::X),[]⟩
theorem Dj:Wt JF= [TJ 0]++([TJ 1,TJ 2,TJ 3]++([TJ 4]++ [TJ 5,TJ 6,TJ 7])):=by rfl'
theorem zC {N:Addr}(hT:ZY G T0) (xo:SE G 38 N 35) (kp:gw G.K (.ref 38)=true) (a:Mm C) (hlo:0<=lo/\lo<=hi) (hhi:hi<=C.tn.length) (hp:lo<=p/\p<=hi) (hc: -1<=c/\c<=3) (hw:Ww ie wn) (hl:1<=wn.length/\wn.length<=3) {k0:Int}(hk:k0<=k/\k<=k0+10):
  X0 G (n+13) pL ([TJ 4]++ [TJ 5,TJ 6,TJ 7]) ⟨JR (T' C) lo hi t ib (sW wn) p c,Zt C ie k (p+1) (lo+1) (hi+1) o (X3 x wn),[]⟩ (B_ C lo hi k0 x) Zn:=by
 have h12:=a.tn
 have hkk: -3<=U_ ib c/\U_ ib c<=3:=by unfold U_;cases ib<;>dsimp only<;>omega
 have q:=JS (G:=G) (C:=C) (n:=n+10) (k:=k) (pt:=p+1) (bz:=lo+1) (zv:=hi+1) (b:=ie) (wn:=wn) (lo:=lo) (hi:=hi) (p:=p) (c:=U_ ib c) (ie:=ie) (o:=o) (X:=X3 x wn) hT (Dm a.lt) (Dn hw) h12 hl.2 (by omega) (by omega) (by omega) (by omega)
 have s:=tS (G:=G) (C:=C) (n:=n) (k:=k) (pt:=p+1) (bz:=lo+1) (zv:=hi+1) (b:=ie) (ie:=ie) (ib:=ib) (c:=c) (wn:=wn) (o:=o) (x:=x) (y:= .gone) (z:=Zy wn) (u:= .Z_ (NJ o)) hT xo kp (a.asks hlo hhi hp hkk) (zD hw) hl
 refine Xs ?_
 refine zH q hT ?_
 refine⟨rfl,?_⟩
 by_cases hc0:c=0
 ·have k0:U_ ib c=0:=by unfold U_;cases ib<;>dsimp only<;>omega
  rw[k0] at s ⊢
  have e:NN ie C.tn wn lo hi p 0=none:=rfl
  rw[e]
  refine zG hT hc0 s ?_
  refine⟨rfl,?_⟩
  exact⟨ie,k,p+1,o,t,ib,_,_,_,_,_,_,_,hk,rfl⟩
 ·have k0:U_ ib c≠0:=by unfold U_;cases ib<;>dsimp only<;>omega
  have d:=zI (ie:=ie) a.lt hw hlo.1 hhi hl.1 hp k0
  rw[d] at s
  unfold NY at s
  rw[decide_eq_false k0] at s
  have di:∀s,NN ie C.tn wn lo hi p (U_ ib c)=some s->lo<=s/\s+wn.length<=hi:=fun s h=>NG (by omega) hp (fun _ e=>by cases e) h
  revert s di
  cases NN ie C.tn wn lo hi p (U_ ib c) with
  |none=>
   intro s _
   refine zF hT hc0 s ?_
   refine⟨rfl,?_⟩
   exact⟨ie,k,p+1,o,t,ib,_,_,_,_,_,_,_,hk,rfl⟩
  |some s0=>
   intro s di
   have di:=di s0 rfl
   refine zE hT hc0 (Dk hc0) ?_ s ?_
   ·unfold Wj tR
    cases decide (0<U_ ib c)<;>(dsimp only[Bool.not];omega)
   ·intro g
    refine⟨rfl,?_⟩
    exact⟨ie,k,_,_,t,ib,_,_,_,_,_,_,_,hk,rfl⟩
theorem tQ {i0:Option AV}{y:Int}{m:Nat}(h:i0=none\/∃b,i0=some (.d b)):(gK 28 28 && Y9 28 (lw C i0 k pt (lo+1) (hi+1) (lO o) [.it false (ZI y m)]))=true:=by
 have e:lw C i0 k pt (lo+1) (hi+1) (lO o) [.it false (ZI y m)]=lw C i0 k pt (lo+1) (hi+1) (lO o) []++ .it false (ZI y m):: []:=by rfl'
 rw[e]
 refine VK ?_
 rcases h with rfl|⟨b,rfl⟩
 ·exact g6.mpr ⟨T_ Qj.sc (H:=fun X=>lw C none k pt (lo+1) (hi+1) X []) fun X=>by rfl',rfl⟩
 ·exact g6.mpr ⟨T_ Qj.sc (H:=fun X=>lw C (some (.d b)) k pt (lo+1) (hi+1) X []) fun X=>by rfl',rfl⟩
theorem F_ {i0:Option AV}{N:Addr}(hT:ZY G T0) (xo:SE G 38 N 35) (kp:gw G.K (.ref 38)=true) (a:Mm C) (hlo:0<=lo/\lo<=hi) (hhi:hi<=C.tn.length) (hk:0<=k/\k<=700):
  X0 G (n+13) pL (Wt JF) ⟨zN (T' C) lo hi t,lw C i0 k pt (lo+1) (hi+1) (lO o) [x],[]⟩ (B_ C lo hi k x) Zn:=by
 rw[Dj]
 refine Xs ?_
 refine zM hT (by omega) a.sc ?_
 refine⟨rfl,?_⟩
 refine Xs ?_
 refine zL hT (by omega) a.sc hlo.2 ?_
 intro m d0 d1 hm h0 h1
 refine⟨rfl,?_⟩
 have e:∀{S:Str},(Y_ C.sc S (k+1+1+1) (1+m).toNat).length=(1+m).toNat:=XH
 exact zC (p:=lo+d1) (c:=d0 - 1) (k:=k+1+1+1+(1+m).toNat+1+1) (k0:=k) hT xo kp a hlo hhi (by omega) (by omega) JO ⟨by rw[e];omega,by rw[e];omega⟩ (by omega)
theorem zB:JF= .For (VL JF) (LB JF) (Wt JF) [] (FY JF):=by rfl'
theorem NF {N:Addr}(hT:ZY G T0) (xo:SE G 38 N 35) (kp:gw G.K (.ref 38)=true) (a:Mm C) (hlo:0<=lo/\lo<=hi) (hhi:hi<=C.tn.length) (hk:0<=k/\k<=600)
  (kk:∀i0 k p o,K .next ⟨Yd (T' C) lo hi,lw C i0 k p (lo+1) (hi+1) (lO o) [.gone],[]⟩):We G (n+13) pL JF ⟨Yd (T' C) lo hi,lw C none k pt (lo+1) (hi+1) (lO none) [],[]⟩ K Zn:=by
 rw[zB]
 refine LU (by rfl') ?_
 refine Zd.to ((ZA hT 20).e (K:=fun a σ=>VO 0 a σ fun k' σ=>∃i,k'=27/\i=4/\σ=⟨Yd (T' C) lo hi,lw C none k pt (lo+1) (hi+1) (lO none) [.it false (ZI 0 i)],[]⟩) (@cast (∃i,27=27/\i=4/\(⟨Yd (T' C) lo hi,lw C none k pt (lo+1) (hi+1) (lO none) [.it false (ZI 0 4)],[]⟩:St)=⟨Yd (T' C) lo hi,lw C none k pt (lo+1) (hi+1) (lO none) [.it false (ZI 0 i)],[]⟩) _ (by rfl') ⟨4,rfl,rfl,rfl⟩)) ?_
 intro b σ h
 refine Q9.to (XC h) ?_
 rintro b ZW ⟨k',rfl,i,rfl,ig,rfl⟩
 refine⟨27,rfl,?_⟩
 refine Wo (fun c σ=>∃(y:Int) (i0:Option AV) (k p:Int) (o:Option (Int×Int)),(i0=none\/∃b,i0=some (.d b))/\(0<=k/\k+10*(c:Int)<=640)/\σ=⟨Yd (T' C) lo hi,lw C i0 k p (lo+1) (hi+1) (lO o) [.it false (ZI y c)],[]⟩) ?_ i ⟨0,none,k,pt,none,.inl rfl,by omega,rfl⟩
 rintro c _ ⟨y,i0,k,p,o,hi0,hk,rfl⟩
 refine Qs (k:=27) (b:=false) (els:=ZI y c) (by rfl') rfl ?_
 cases c with
 |zero=>exact @cast (K .next ⟨Yd (T' C) lo hi,lw C i0 k p (lo+1) (hi+1) (lO o) [.gone],[]⟩) _ (by rfl') (kk i0 k p o)
 |succ c=>
  show Rg G (n+13) pL (VL JF) (.d (.int y)) ⟨Yd (T' C) lo hi,lw C i0 k p (lo+1) (hi+1) (lO o) [.it false (ZI (y+1) c)],[]⟩ _ Zn
  refine(ZA hT 16).a ?_
  refine @cast (X0 G (n+13) pL (Wt JF) ⟨zN (T' C) lo hi y,lw C i0 k p (lo+1) (hi+1) (lO o) [.it false (ZI (y+1) c)],[]⟩ (Yl K fun Zq=>∃c',c'<c+1/\∃(y:Int) (i0:Option AV) (k p:Int) (o:Option (Int×Int)),(i0=none\/∃b,i0=some (.d b))/\(0<=k/\k+10*(c':Int)<=640)/\Zq=⟨Yd (T' C) lo hi,lw C i0 k p (lo+1) (hi+1) (lO o) [.it false (ZI y c')],[]⟩) Zn) _ (by rfl') ?_
  refine J.trim (Yq:= []) YA.rf (F_ (i0:=i0) (k:=k) (pt:=p) (o:=o) (t:=y) (x:= .it false (ZI (y+1) c)) hT xo kp a hlo hhi (by omega)) fun fl σ q=> ?_
  obtain ⟨rfl,b,k',p',o',t,ib,W,p,c0,d,r,g,X,hk',rfl⟩:=q
  exact⟨.next,Yd (T' C) lo hi,lw C (some (.d (.bool b))) k' p' (lo+1) (hi+1) (lO o') [.it false (ZI (y+1) c)],[],Zz (g:=X) (tQ (.inr ⟨_,rfl⟩)) trivial (SG (by rfl')),c,fU _,y+1,_,k',p',o',.inr ⟨_,rfl⟩,by omega,rfl⟩
end
section
variable {G:Gm}{C:LC}{n:Nat}{K:Zk->St->Prop}{lo hi k p pt bz zv:Int}{i0:Option AV}{o:Option (Int×Int)}{x:AO}
theorem Di {l:List AV}{X:List AO}(hT:ZY G T0) (hs:C.cs.length<=100) (hg:C.ge=C.cs.length):Z5 G (n+2) (.Z8 (.ref 1106)) [.loc 10] (lw C i0 k pt bz zv l X) (.d (.int (cW C.tn).length)) (lw C i0 k pt bz zv l X):=by
 have c:Z5 G (n+2) (.Z8 (.ref 1106)) [.loc 10] (lw C i0 k pt bz zv l X) (.d (.int (C.cs.length - C.ge+(cW C.tn).length))) (lw C i0 k pt bz zv l X++ []):=(z8 (pt:=pt) (q:=⟨bz,zv,C.tk,(cW C.tn).length,C.ge,C.cs⟩) (n:=n) hT hs).at [10,11,12,13,14,15] (by rfl') (by rfl') (by rfl')
 rw[Ro,show (C.cs.length:Int)- C.ge+(cW C.tn).length=(cW C.tn).length by omega] at c
 exact c
theorem F9 {l:List AV}{b:Int}(hT:ZY G T0) (hs:C.cs.length<=100) (h:b - 1<=(cW C.tn).length):Z5 G (n+2) (.Z8 (.ref 1120)) [.loc 10,.d (.int 1),.d (.int b)] (lw C i0 k pt bz zv l [x]) (.loc 28) (lw C i0 k pt bz zv l [x,.Z_ (Xr C.cs (some 0) (some (b - 1)))]):=
 (DJ (pt:=pt) (q:=⟨bz,zv,C.tk,(cW C.tn).length,C.ge,C.cs⟩) (n:=n) hT hs h).at [10,11,12,13,14,15] (by rfl') (by rfl') (by rfl')
theorem F8 {α:Type}{a b:List α}{i:Int}(h:i=a.length):Xr (a++b) (some 0) (some i)=a:=by
 have e1:Si (a++b).length (some 0)=0:=Nat.zero_min _
 have e2:L7 (a++b).length (some i)=a.length:=by
  show (match decide (i<0) with|true=>(i+((a++b).length:Int)).toNat|false=>min i.toNat (a++b).length)=_
  rw[decide_eq_false (by omega),h]
  exact cg (by simp)
 unfold Xr
 rw[e1,e2]
 simp
abbrev zA:Stmt:=VZ Vi 6
def ou (x:Expr):Expr:=Ye 15 x (.Constant .none 0 default) fun h=> @PySem.Expr.Compare.elim (fun _=>Expr) x h fun _ _ l _=>l.head?.getD (.Constant .none 0 default)
def oq (x:Stmt):Expr:=XO 3 x (.Constant .none 0 default) fun h=> @ah (fun _=>Expr) x h fun l _=>l.getD (.Constant .none 0 default)
abbrev B9:Expr:=ou (oq zA)
theorem zz:B9= .ListComp (uq B9) [⟨.Name "sign" (yW (JZ B9).target),(JZ B9).iter,[],0⟩] (uo B9) (yX B9):=by rfl'
theorem Lc (hT:ZY G T0) (a:Mm C) (kk:∀σ,σ.hp[0]?=some (.X7 (uh C.xs.o))->σ.hp[1]?=some DF->σ.hp[2]?=some DE->K (.ret (.d (.bool true))) σ):X0 G (n+13) pL [zA] ⟨Yd (T' C) lo hi,lw C i0 k p (lo+1) (hi+1) (lO o) [.gone],[]⟩ K Zn:=by
 let cd:=Xr C.cs (some 0) (some (((cW C.tn).length:Int)+1 - 1))
 have ec:cd=cW C.tn:=by
  obtain ⟨t,e⟩:=a.hh.c
  show Xr C.cs _ _=_
  rw[e]
  exact F8 (by omega)
 have h12:=a.tn
 have s:=Di (G:=G) (C:=C) (n:=n+11) (i0:=i0) (k:=k) (pt:=p) (bz:=lo+1) (zv:=hi+1) (l:=lO o) (X:= [.gone]) hT a.hh.s a.ge
 have d:=F9 (G:=G) (C:=C) (n:=n+11) (i0:=i0) (k:=k) (pt:=p) (bz:=lo+1) (zv:=hi+1) (l:=lO o) (x:= .gone) (b:=(cW C.tn).length+1) hT a.hh.s (by omega)
 have c:MW G (n+13) pL B9 (Yd (T' C) lo hi) (lw C i0 k p (lo+1) (hi+1) (lO o) [.gone,.Z_ cd]) (.loc 30) (lw C i0 k p (lo+1) (hi+1) (lO o) [.gone,.Z_ cd]++ [.gone,.Z_ (cW C.tn)]):=Lk (N:=29) (F:=10) hT zz (by rfl') rfl (by omega)
  (@cast (29=29/\(⟨Yd (T' C) lo hi,lw C i0 k p (lo+1) (hi+1) (lO o) [.gone,.Z_ cd,.it false (C.tn.map sA)],[]⟩:St)=⟨Yd (T' C) lo hi,lw C i0 k p (lo+1) (hi+1) (lO o) [.gone,.Z_ cd]++ [.it false (C.tn.map sA)],[]⟩) _ (by rfl') ⟨rfl,rfl⟩)
  (fun c tl l=>(Eq.trans (by simp) (by rfl':(AV.d (.int (c:Int))= .d (.int (c:Int))/\(⟨[("sign",sA c)],lw C i0 k p (lo+1) (hi+1) (lO o) [.gone,.Z_ cd]++ [.it false tl,.Z_ l],[]⟩:St)=⟨[("sign",sA c)],lw C i0 k p (lo+1) (hi+1) (lO o) [.gone,.Z_ cd]++ [.it false tl,.Z_ l],[]⟩)=_)))
 refine Wz (F:=20) hT [.con 1233 (.d (.int (cW C.tn).length)) (lw C i0 k p (lo+1) (hi+1) (lO o) [.gone]),.con 1233 (.loc 28) (lw C i0 k p (lo+1) (hi+1) (lO o) [.gone,.Z_ cd]),.Jj 1233 (.loc 30) (lw C i0 k p (lo+1) (hi+1) (lO o) [.gone,.Z_ cd]++ [.gone,.Z_ (cW C.tn)])] (.ret (.d (.bool (decide (cd=cW C.tn))))) ⟨Yd (T' C) lo hi,lw C i0 k p (lo+1) (hi+1) (lO o) [.gone,.Z_ cd]++ [.gone,.Z_ (cW C.tn)],[]⟩
  (Z5 G (n+13) (.Z8 (.ref 1106)) [.loc 10] (lw C i0 k p (lo+1) (hi+1) (lO o) [.gone]) (.d (.int (cW C.tn).length)) (lw C i0 k p (lo+1) (hi+1) (lO o) [.gone])/\Z5 G (n+13) (.Z8 (.ref 1120)) [.loc 10,.d (.int 1),.d (.int ((cW C.tn).length+1))] (lw C i0 k p (lo+1) (hi+1) (lO o) [.gone]) (.loc 28) (lw C i0 k p (lo+1) (hi+1) (lO o) [.gone,.Z_ cd])/\MW G (n+13) pL B9 (Yd (T' C) lo hi) (lw C i0 k p (lo+1) (hi+1) (lO o) [.gone,.Z_ cd]) (.loc 30) (lw C i0 k p (lo+1) (hi+1) (lO o) [.gone,.Z_ cd]++ [.gone,.Z_ (cW C.tn)])/\
  Zk.ret (.d (.bool (decide (cd=cW C.tn))))= .ret (.d (.bool (decide (cd=cW C.tn))))/\(⟨Yd (T' C) lo hi,lw C i0 k p (lo+1) (hi+1) (lO o) [.gone,.Z_ cd]++ [.gone,.Z_ (cW C.tn)],[]⟩:St)=⟨Yd (T' C) lo hi,lw C i0 k p (lo+1) (hi+1) (lO o) [.gone,.Z_ cd]++ [.gone,.Z_ (cW C.tn)],[]⟩) (by rfl') ⟨s,d,c,rfl,rfl⟩ ?_
 rw[decide_eq_true ec]
 exact kk _ rfl rfl rfl
end
section
variable {G:Gm}{n:Nat}
theorem zy:Vi.body= [VZ Vi 0]++([sy]++([VZ Vi 2,VZ Vi 3]++([VZ Vi 4]++([JF]++ [zA])))):=by rfl'
abbrev H3 (xs:Gp):List AO:= [.X7 (uh xs.o),DF,DE]
def F7 (xs:Gp):Zk->St->Prop:=fun fl σ=>fl= .ret (.d (.bool true))/\σ.hp[0]?=some (.X7 (uh xs.o))/\σ.hp[1]?=some DF/\σ.hp[2]?=some DE
theorem F6 {N:Addr}{xs:Gp}(hT:ZY G T0) (xo:SE G 38 N 35) (kp:gw G.K (.ref 38)=true) (hx:xs.l.length<=63) (ho:Ln xs.o xs.l):
  X0 G (n+13) pL Vi.body ⟨V8,H3 xs++ [.cell none,.cell none],[]⟩ (F7 xs) Zn:=by
 rw[zy]
 have hs:(Xr xs.l none (some 60)).length<=100:=fN (Sh ..) (by omega)
 have sx:small xs.l.length=true:=YG (by omega)
 refine Xs ?_
 have c0:Z5 G (n+13) (.bi .list) [.loc 0] (H3 xs++ [.cell none,.cell none]) (.loc 5) (H3 xs++ [.cell none,.cell none]++ [.Z_ xs.l]):=DG rfl ho (by omega)
 refine Wz (F:=20) hT [.con 1206 (.loc 5) (H3 xs++ [.cell none,.cell none]++ [.Z_ xs.l]),.k 1206,.k 1206] .next ⟨V8,XF none xs (Xr xs.l none (some 60)) 0,[]⟩ (Z5 G (n+13) (.bi .list) [.loc 0] (H3 xs++ [.cell none,.cell none]) (.loc 5) (H3 xs++ [.cell none,.cell none]++ [.Z_ xs.l])/\small xs.l.length=true/\small 2=true/\Zk.next= .next/\(⟨V8,XF none xs (Xr xs.l none (some 60)) 0,[]⟩:St)=⟨V8,XF none xs (Xr xs.l none (some 60)) 0,[]⟩) (by rfl') ⟨c0,sx,by rfl',rfl,rfl⟩ ?_
 revert hs
 generalize Xr xs.l none (some 60)=sc
 intro hs
 refine⟨rfl,?_⟩
 have hm:=Y5 (sc:=sc) (k:=0) (many:=13) (by decide)
 first|refine Xs ?_|(refine Xs ?_)
 first|refine NR hT hs rfl hm ?_|(refine NR hT hs rfl hm ?_)
 refine⟨rfl,?_⟩
 first|refine Xs ?_|(refine Xs ?_)
 have ht:(Y_ sc S6 1 (ZN sc 0 13).toNat).length<=12:=by rw[XH];omega
 first|refine NQ hT ht ?_|(refine NQ hT ht ?_)
 intro C c1 c2 c3 hh hg
 have a:Mm C:=⟨c2▸hs,c3▸ht,c3▸JP,c3▸hh,hg⟩
 rw[<-c3]
 clear ht hh hg c3 sx c0
 refine⟨rfl,?_⟩
 first|refine Xs ?_|(refine Xs ?_)
 have hr:=Lj C (1+ZN sc 0 13)
 first|refine Rl hT (by omega) a.sc a.tn a.hh.s a.ge ?_|(refine Rl hT (by omega) a.sc a.tn a.hh.s a.ge ?_)
 refine⟨rfl,?_⟩
 first|refine Xs ?_|(refine Xs ?_)
 first|refine YJ ?_|(refine YJ ?_)
 have nx:0<=NO C (1+ZN sc 0 13)/\NO C (1+ZN sc 0 13)<=600:=by
  unfold NO
  cases decide (ZN C.sc (1+ZN sc 0 13) 3=2)<;>dsimp only<;>omega
 first|refine NF hT xo kp a ⟨hr.1,hr.2.1⟩ hr.2.2 nx ?_|(refine NF hT xo kp a ⟨hr.1,hr.2.1⟩ hr.2.2 nx ?_)
 intro i0 k p o
 first|refine OU ?_|(refine OU ?_)
 refine⟨rfl,?_⟩
 first|exact Lc hT a fun σ e0 e1 e2=>⟨rfl,c1▸e0,e1,e2⟩|(exact Lc hT a fun σ e0 e1 e2=>⟨rfl,c1▸e0,e1,e2⟩)
end
def om (P:g9):Array gh:= #[Hd.en P "__module__" 203 (.str (fz "emacs.errors") 194),Hd.en P "__firstlineno__" 207 (.int 5 206),Hd.en P "__init__" 216 (.ref 35),Hd.en P "__static_attributes__" 219 (.ref 36),Hd.en P "__weakref__" 221 (.ref 39),Hd.en P "__doc__" 222 (.none)]
theorem zx (P:g9):(Hd.KL P).lookup 38=some (dF "LispSignal" "LispSignal" 38 37 [.type "Exception"] sQ true [] [] false none none (some (.ref 22)) none (some (.str (fz "LispSignal") 196)) (some (.str (fz "LispSignal") 204)) (some (.bool true)) "Exception.__new__"):=by rfl'
theorem tP (P:g9):(Hd.KL P).lookup 37=some {cls:= .type "dict",data:= .dict (om P) 3}:=by rfl'
theorem tO (P:g9):((Hd.KL P).lookup 35).map (·.cls)=some (.type "function"):=by rfl'
theorem zw {G:Gm}{P:g9}(hK:G.K=Hd.KL P):SE G 38 37 35:=by
 refine⟨?_,?_,?_⟩
 ·exact .mk _ _ _ _ _ _ _ _ _ _ _ _ _ (by rw[hK];exact zx P)
 ·refine .mk _ (om P) 3 (by rw[hK];exact tP P) rfl ?_ ?_ ?_ ?_ ?_ ?_ ?_
  ·intro e he
   have he:=Array.mem_toList_iff.mpr he
   unfold om at he
   simp only[gy,List.not_mem_nil,or_false] at he
   rcases he with rfl|rfl|rfl|rfl|rfl|rfl<;>exact⟨_,_,rfl⟩
  all_goals rfl'
 ·rw[hK]
  obtain ⟨o,h,e⟩:=aI.mp (tO P)
  exact⟨o,h,e⟩
theorem tN {G:Gm}{P:g9}(hK:G.K=Hd.KL P):gw G.K (.ref 38)=true:=by rw[hK];rfl'
theorem O7 {h h':Heap}{a:Addr}{o:Obj}{m:Str->Option h_}(e:h'.Ns a m) (g:h.get? a=some o) (k:h'.get? a=some o):h.Ns a m:=by
 obtain ⟨o',es,ep,x,r⟩:=e
 rw[k] at x
 cases x
 exact⟨_,es,ep,g,r⟩
theorem tM (P:g9):((Hd.KL P).lookup 820,(Hd.KL P).lookup 827)=(none,none):=by rfl'
theorem tL (P:g9):(Hd.KL P).In (hSt P):=fun a o e=>by
 have n:=tM P
 refine Hs (Hd.yO P a o e) ?_ ?_
 ·rintro rfl;rw[(Prod.mk.inj n).1] at e;cases e
 ·rintro rfl;rw[(Prod.mk.inj n).2] at e;cases e
theorem O6 (P:g9) {a:Addr}(h:(match (Hd.ND P).get a with|some o=> !o.isFreed|none=>false)=true) (h1:a<1626) (h2:a≠820) (h3:a≠827):∃o,(hSt P).get? a=some o:=by
 cases e:(Hd.ND P).get a with
 |none=>rw[e] at h;cases h
 |some o=>
  rw[e] at h
  exact⟨o,Hs (Hd.W5 e h1 (by simpa using h)) h2 h3⟩
theorem Dh (P:g9):∃o,(hSt P).get? mainGlobals=some o:=O6 P (by rfl') (by decide) (by decide) (by decide)
theorem Dg (P:g9):∃o,(hSt P).get? builtinsNs=some o:=O6 P (by rfl') (by decide) (by decide) (by decide)
theorem Df (P:g9):∃o,(hSt P).get? cStatics=some o:=O6 P (by rfl') (by decide) (by decide) (by decide)
theorem zq (P:g9):∃o,(hSt P).get? sysModules=some o:=O6 P (by rfl') (by decide) (by decide) (by decide)
theorem zo {P:g9}{p:gP}{loose:List Str}{mean:ExcName->Option h_}{mg mb:Str->Option h_}{h:Heap}(T:Top p loose mean mg mb h) (k:∀b o,(Hd.HF P).get? b=some o->h.get? b=some o):Su (Hd.KL P) (hSt P):=by
 refine⟨tL P,p,loose,mg,mb,?_⟩
 have T:=topRead_of T
 have kk:∀b o,(hSt P).get? b=some o->h.get? b=some o:=fun b o e=>k b o (ME e).1
 obtain ⟨o1,e1⟩:=Dh P
 obtain ⟨o2,e2⟩:=Dg P
 obtain ⟨o3,e3⟩:=Df P
 refine⟨O7 T.g e1 (kk _ _ e1),O7 T.b e2 (kk _ _ e2),?_,T.builtins,T.free⟩
 obtain ⟨mc,q,r⟩:=T.nolimit
 exact⟨mc,O7 q e3 (kk _ _ e3),r⟩
theorem intsOf {R:WRecords}{cl:Str->Option Addr}{h:Heap}{xs:List WData}:∀{vs:List h_}{as:List Addr},WShape.hasItems R xs .int=true->ReadsAllW R cl h vs xs as->∃l:List Int,l.length=xs.length/\ZE (fun _=>none) (l.map .int) vs:=by
 induction xs with
 |nil=>exact fun _ r=>⟨[],rfl,(readsAllW_nil_inv r).1⟩
 |cons x xs ih=>
  intro vs as hx r
  obtain ⟨h1,h2⟩:=g6.mp hx
  obtain ⟨i,rfl⟩:=hasW_int h1
  obtain ⟨v,vs,a,b,rfl,rfl,r1,r2⟩:=readsAllW_cons_inv r
  obtain ⟨l,e,q⟩:=ih h2 r2
  obtain ⟨t,rfl,_⟩:=readsW_int_inv r1
  exact⟨i::l,congrArg cT e,_,_,rfl,⟨t,rfl⟩,q⟩
theorem tK {xs:List WData}(h2:WTm.holds [] (.and (.not (.lt (.lit (.int 63)) (.len (.arg 0)))) (.lit (.bool true))) {args:= [.list xs]}=true):xs.length<=63:=by
 by_cases q:(63:Int)<(xs.length:Int)
 ·simp[WTm.holds,WTm.value,less?,Num.less?,q] at h2
 ·exact b_.mp (fc.mp q)
theorem JN {cl:Str->Option Addr}{h:Heap}{args:List WData}{vals:List h_}{as:List Addr}(hp:(RowW.claim Hd.rr.toRowW).pre args=true) (hr:ReadsAllW Hd.rr.records cl h vals args as):
  ∃a o l,vals= [.ref a]/\h.get? a=some o/\Ln o l/\l.length<=63:=by
 obtain ⟨h1,h2⟩:=pre_splitW hp
 obtain ⟨d,r,rfl,h3,h4⟩:=hasAllW_cons (e:= .list .int) (es:= []) h1
 obtain rfl:=hasAllW_nil h4
 obtain ⟨xs,rfl,h5⟩:=hasW_list h3
 obtain ⟨v,vs,a,b,rfl,rfl,r1,r2⟩:=readsAllW_cons_inv hr
 obtain ⟨rfl,_⟩:=readsAllW_nil_inv r2
 obtain ⟨p,o,its,n,ai,rfl,g1,g2,g3,g4,_⟩:=readsW_list_open r1
 obtain ⟨l,e,q⟩:=intsOf h5 g4
 refine⟨_,_,l,rfl,g1,⟨⟨_,_,g2,g3,q⟩⟩,?_⟩
 exact e▸tK h2
def one (a:Addr) (o:Obj):Part:=upd (fun _=>none) a (some o)
theorem F5 {a:Addr}{o:Obj}:one a o a=some o:=Z6 _ _ _
theorem TG {a b:Addr}{o o':Obj}(h:one a o b=some o'):b=a/\o'=o:=by
 unfold one at h
 by_cases q:b=a
 ·subst q;rw[Z6] at h;cases h;exact⟨rfl,rfl⟩
 ·rw[Z2 q] at h;cases h
theorem Ri {a b:Addr}{o:Obj}(h:b≠a):one a o b=none:=Z2 h
theorem De (P:g9):((eY 1626).all fun a=>match (Hd.ND P).get a with|some o=>(match o.cls with| .type "list" =>false|_=>true)|none=>true)=true:=by rfl'
theorem F4 {P:g9}{a:Addr}{o:Obj}(e:(Hd.HF P).get? a=some o):o.cls≠ .type "list" :=fun hc=>by
 obtain ⟨e1,_⟩:=Heap.get?_some_iff.mp e
 unfold Hd.HF at e1
 rw[absHeap_at] at e1
 by_cases h:a<1626
 ·rw[if_pos h] at e1
  have z:=gu.mp (De P) a (List.mem_range.mpr h)
  cases q:(Hd.ND P).get a with
  |none=>rw[q] at e1;cases e1;cases hc
  |some o'=>
   rw[q] at e1 z
   cases e1
   dsimp only[Option.getD] at hc z
   rw[hc] at z
   cases z
 ·rw[if_neg h] at e1;cases e1
theorem zm (P:g9):nsIn (Hd.KL P) mainGlobals "law" =some (some (.ref 1625)):=by rfl'
structure Left (h:Heap) (ad:Addr) (o:Obj) (v:h_) (h':Heap):Prop where
 v:v= .bool true
 keep:∀b o',b≠ad->b≠820->b≠827->h.get? b=some o'->h'.get? b=some o'
 s:h'.get? ad=some o
 a:∃ps,h'.get? 820=some (gC ps)
 b:∃ps,h'.get? 827=some (gC ps)
theorem Dd {G:Gm}{n:Nat}{h:Heap}{ad:Addr}{o:Obj}{l:List Int}{A:gY}{X:h_->Heap->Prop}(hT:ZY G T0) (xo:SE G 38 37 35) (kp:gw G.K (.ref 38)=true) (hx:l.length<=63) (ho:Ln o l) (hA:Rm (n+14) A) (hfr:A.frames=some [])
  (ha:h.get? ad=some o) (n1:ad≠820) (n2:ad≠827) (t1:h.get? 820=some (gC #[])) (t2:h.get? 827=some (gC #[])) (hst:∀b o,G.hS.get? b=some o->b≠ad/\b≠820/\b≠827/\h.get? b=some o):
  W G.prog G.w A (call (.ref 1625) [.ref ad]) (Left h ad o) X h:=by
 let B:Part:=fun b=>if b=ad\/b=820\/b=827 then none else h.get? b
 have iJ:∀{b o'},B b=some o'->(b≠ad/\b≠820/\b≠827)/\h.get? b=some o':=fun{b o'} e=>by
  by_cases q:b=ad\/b=820\/b=827
  ·rw[show B b=none from if_pos q] at e;cases e
  ·rw[show B b=h.get? b from if_neg q] at e
   exact⟨⟨fun z=>q (.inl z),fun z=>q (.inr (.inl z)),fun z=>q (.inr (.inr z))⟩,e⟩
 have lU:∀{b o'},b≠ad->b≠820->b≠827->h.get? b=some o'->B b=some o':=fun{b o'} p q r e=>by
  rw[show B b=h.get? b from if_neg fun z=>by rcases z with z|z|z<;>contradiction];exact e
 have d3:∀b,one 827 (gC #[]) b≠none->(fun _=>none:Part) b=none:=fun _ _=>rfl
 have d2:∀b,one 820 (gC #[]) b≠none->one 827 (gC #[]) b=none:=fun b z=>Ri fun q=>z (Ri (by rw[q];decide))
 have d1:∀b,one ad o b≠none->Xi (one 820 (gC #[])) (one 827 (gC #[])) b=none:=fun b z=>by
  obtain rfl:b=ad:=Decidable.byContradiction fun q=>z (Ri q)
  exact Yw (Ri n1) (Ri n2)
 have tab:∀{ρ:List Addr}{P:Addr}{q:Str},Y3 ρ B P (.tab P q) (one P (gC #[])):=fun{ρ P q}=>⟨rfl,#[],F5,trivial,fun pos cv e=>by cases e⟩
 refine KW (n:=n+13) (fn:=Vi) (as:= [.loc 0]) (H:=H3 ⟨l,o⟩) (ρ:= [ad,820,827]) (B:=B) (V0:=Xi (one ad o) (Xi (one 820 (gC #[])) (one 827 (gC #[])))) (K:=F7 ⟨l,o⟩)
  (hT.fn 1625 Vi (by rfl')).1 rfl (by rfl') (by rfl') (by rfl') hA hfr ⟨_,_,rfl,⟨ad,rfl,rfl⟩,rfl⟩ rfl (fun b o' e=> ?_) (fun b o' e=>(iJ e).2) (fun b o' e=> ?_) (fun b o' e=> ?_) ?_ ?_ ?_
 ·obtain ⟨q1,q2,q3,q4⟩:=hst b o' e
  exact lU q1 q2 q3 q4
 ·unfold Xi at e
  cases q:one ad o b with
  |some x=>rw[q] at e;cases e;obtain ⟨rfl,rfl⟩:=TG q;exact ha
  |none=>
   rw[q] at e
   dsimp only at e
   cases q2:one 820 (gC #[]) b with
   |some x=>rw[q2] at e;cases e;obtain ⟨rfl,rfl⟩:=TG q2;exact t1
   |none=>rw[q2] at e;obtain ⟨rfl,rfl⟩:=TG e;exact t2
 ·have hb:b=ad\/b=820\/b=827:=by
   unfold Xi at e
   cases q:one ad o b with
   |some x=>exact .inl (TG q).1
   |none=>
    rw[q] at e
    dsimp only at e
    cases q2:one 820 (gC #[]) b with
    |some x=>exact .inr (.inl (TG q2).1)
    |none=>rw[q2] at e;exact .inr (.inr (TG e).1)
  exact if_pos hb
 ·refine⟨one ad o,Xi (one 820 (gC #[])) (one 827 (gC #[])),d1,WY,Wg d1,F5,one 820 (gC #[]),one 827 (gC #[]),d2,WY,Wg d2,tab,one 827 (gC #[]),fun _=>none,d3,Le.rfl,(fun _ _ e=>by cases e),tab,trivial⟩
 ·exact F6 (n:=n) (xs:=⟨l,o⟩) hT xo kp hx ho
 ·rintro fl ZH Zw L h' u ⟨rfl,k0,k1,k2⟩ le R ru
  obtain ⟨⟨m,lm,R1⟩,R2⟩:=And.intro (id R) R
  have pre:∀{i:Nat}{a:Addr},[ad,820,827][i]?=some a->Zw.ρ[i]?=some a:=fun e=>Y7 le.1 e
  refine⟨ru,fun b o' p q r e=> ?_,?_,?_,?_⟩
  ·obtain ⟨V,S,_⟩:=R1.ss
   exact S.keep _ _ (le.2 _ _ (lU p q r e))
  ·obtain ⟨a,m,rest,e,S,_⟩:=R2.at k0 ⟨ad,pre rfl,rfl⟩
   cases e
   obtain ⟨V,S,V1,V2,d,l1,l2,p,r⟩:=S
   exact S.YW _ _ (l1 _ _ p)
  ·obtain ⟨a,m,rest,e,S,_⟩:=R2.at k1 ⟨820,pre rfl,rfl⟩
   cases e
   obtain ⟨V,S,V1,V2,d,l1,l2,⟨_,ps,p,_⟩,r⟩:=S
   exact⟨ps,S.YW _ _ (l1 _ _ p)⟩
  ·obtain ⟨a,m,rest,e,S,_⟩:=R2.at k2 ⟨827,pre rfl,rfl⟩
   cases e
   obtain ⟨V,S,V1,V2,d,l1,l2,⟨_,ps,p,_⟩,r⟩:=S
   exact⟨ps,S.YW _ _ (l1 _ _ p)⟩
theorem F3 {n:Nat}(h:n<=100):Rm n callerA:=⟨fN (Nat.add_le_add_left h _) (by decide),fN (Nat.add_le_add_left (Nat.mul_le_mul_left 10 h) _) (by decide),rfl⟩
theorem Rh {h:Heap}{c P:Addr}(x:CodeHd h c P):isCodeTable h P:=by
 obtain ⟨o,vs,file,tf,flags,tg,ic,text,tt,g,hc,hd,h11,_⟩:=x
 exact⟨c,o,vs,g,hc,hd,h11⟩
theorem CodeHd.up {h h':Heap}{c P:Addr}(x:CodeHd h c P) (k:∀b o,h.get? b=some o->h'.get? b=some o):isCodeTable h' P:=by
 obtain ⟨c',o,vs,g,r⟩:=Rh x
 exact⟨c',o,vs,k _ _ g,r⟩
theorem call:WalkO Hd.qv Hd.lz (XL Hd.qv []) Hd.HK.says Hd.rr.toRowW Hd.XQ.1 Hd.XQ.2 fun f vs=>PySem.call f vs:=by
 intro w iI Uq mg mb Gr y a o pm cd doc dV kV ho hd hc hD hmg hgens args vals as hpre hlay hrd lS hne
 have y:∀b o,(Hd.HF w.params).get? b=some o->Uq.heap.get? b=some o:=y
 obtain ⟨ad,so,l,rfl,hs,io,hl⟩:=JN hpre hrd
 have Z:Su (Hd.KL w.params) (hSt w.params):=zo Gr.T y
 let G:Gm:=⟨Hd.rr.toRowW.prog,w,hSt w.params,Hd.KL w.params,Z,zq w.params⟩
 have hT:ZY G T0:=p9 rfl
 have xo:SE G 38 37 35:=zw rfl
 have kp:gw G.K (.ref 38)=true:=tN (G:=G) rfl
 have ek:∀b o,(hSt w.params).get? b=some o->Uq.heap.get? b=some o:=fun b o e=>y b o (ME e).1
 have oj:mg "law" =some (.ref 1625):=mg_of (Z.k.keeps ek) Gr.T.g (zm w.params)
 obtain rfl:a=1625:=by
  rw[show Hd.XQ.1.name="law" from defOf_name Hd.hdef] at hmg
  rw[oj] at hmg;cases hmg;rfl
 obtain ⟨jc,ia,hcl,hdt,_⟩:=io.d
 have t1:Uq.heap.get? 820=some (gC #[]):=y _ _ (Hd.W5 (vQ w.params) (by decide) rfl)
 have t2:Uq.heap.get? 827=some (gC #[]):=y _ _ (Hd.W5 (vP w.params) (by decide) rfl)
 have n1:ad≠820:=by rintro rfl;rw[t1] at hs;cases hs;cases hcl
 have n2:ad≠827:=by rintro rfl;rw[t2] at hs;cases hs;cases hcl
 refine Dd (G:=G) (n:=0) (X:=fun _ _=>False) hT xo kp hl io (F3 (by decide)) rfl hs n1 n2 t1 t2 (fun b o' e=> ?_) Uq _ _ rfl (fun v h' tk L=> ?_) fun _ _ _ f=>f.elim
 ·obtain ⟨e1,q1,q2⟩:=ME e
  refine⟨?_,q1,q2,y _ _ e1⟩
  rintro rfl
  rw[y _ _ e1] at hs
  cases hs
  exact F4 e1 hcl
 ·obtain ⟨rfl,keep,ks,⟨ps,ka⟩,qs,kb⟩:=L
  refine⟨.inl ⟨.bool true,.bool true,[],rfl,fun cls=>rfl,.bool true,?_,fun _=>⟨List.nodup_nil,fun _ q=>by cases q⟩⟩,⟨fun b o' e=> ?_,fun b o' e=> ?_⟩,rfl,.of_eq hgens⟩
  ·rfl'
  ·by_cases b1:b=ad
   ·subst b1;rw[hs] at e;cases e;exact .inl ks
   by_cases b2:b=820
   ·subst b2;rw[t1] at e;cases e
    exact .inr (.inl ⟨CodeHd.up (hT.tb 824 820 (by rfl')).hd ek,rfl,#[],ps,rfl,by rw[ka,Array.empty_append]⟩)
   by_cases b3:b=827
   ·subst b3;rw[t2] at e;cases e
    exact .inr (.inl ⟨CodeHd.up (hT.tb 831 827 (by rfl')).hd ek,rfl,#[],qs,rfl,by rw[kb,Array.empty_append]⟩)
   exact .inl (keep b o' b1 b2 b3 e)
  ·by_cases b1:b=ad
   ·subst b1;exact⟨_,ks⟩
   by_cases b2:b=820
   ·subst b2;exact⟨_,ka⟩
   by_cases b3:b=827
   ·subst b3;exact⟨_,kb⟩
   exact⟨_,keep b o' b1 b2 b3 e⟩
end Mine
theorem PySem.Challenge.cw_on0079_01_holds : PySem.Challenge.rw_on0079_01.Holds :=
 Hd.holds_of Mine.call
